/- The functions that ReduceKnown reaches, as data of the evaluator (part 0), written by program; each is shown to be the compiler's result on the loaded function. -/
import Derived.Test.YtopemogpgppjlaaGreatDoorProg
import Derived.Test.YtopemogpgppjlaaGreatDoorEv7
import Derived.KernelRfl
namespace Go.Proofs.YtopemogpgppjlaaGreatDoor.reduceKnown
open Go.Ev
set_option maxRecDepth 100000
noncomputable def a15 : AFn :=
⟨27,[(.t 4)],(.seq (.reg [⟨(some 4),(.q (.mv (.c (.bool false)))),none,0⟩])
(.seq (.seq (.reg [⟨(some 6),(.q (.mv (.t 0))),none,0⟩,
⟨(some 7),(.q (.lenSl (.t 6))),none,0⟩,
⟨(some 8),(.q (.mv (.t 1))),none,0⟩,
⟨(some 9),(.q (.lenSl (.t 8))),none,0⟩,
⟨(some 10),(.q (.bin .neq (.p .int) (.t 7) (.t 9))),none,0⟩])
(.cond (.t 10) (.seq (.reg [⟨(some 4),(.q (.mv (.c (.bool false)))),none,0⟩])
.ret) .skip))
(.seq (.seq (.reg [⟨(some 5),(.q (.mv (.c (.int .i64 (.ofNat 0))))),none,0⟩])
(.block 0 (.loop (.seq (.seq (.reg [⟨(some 11),(.q (.mv (.t 5))),none,0⟩,
⟨(some 12),(.q (.mv (.t 0))),none,0⟩,
⟨(some 13),(.q (.lenSl (.t 12))),none,0⟩,
⟨(some 14),(.q (.bin .lss (.p .int) (.t 11) (.t 13))),none,0⟩])
(.cond (.t 14) .skip (.exit 0)))
(.seq (.block 1 (.seq (.drw [⟨(some 17),(.q (.mv (.t 0))),none,0⟩,
⟨(some 18),(.q (.mv (.t 5))),none,0⟩,
⟨(some 19),(.q (.iaddr (.slice 3) (.t 17) (.t 18))),none,3⟩,
⟨(some 20),(.q (.ld true 3 (.t 19))),none,7⟩,
⟨(some 21),(.q (.mv (.t 1))),none,0⟩,
⟨(some 22),(.q (.mv (.t 5))),none,0⟩,
⟨(some 23),(.q (.iaddr (.slice 3) (.t 21) (.t 22))),none,48⟩,
⟨(some 24),(.q (.ld true 3 (.t 23))),none,112⟩,
⟨(some 25),(.x (.call (.c (.fn 50 [] [])) [(.t 20),(.t 24)])),none,255⟩,
⟨(some 26),(.q (.un .not (.t 25))),none,511⟩])
(.cond (.t 26) (.seq (.reg [⟨(some 4),(.q (.mv (.c (.bool false)))),none,0⟩])
.ret) .skip)))
(.reg [⟨(some 15),(.q (.mv (.t 5))),none,0⟩,
⟨(some 16),(.q (.bin .add (.p .int) (.t 15) (.c (.int .i64 (.ofNat 1))))),none,0⟩,
⟨(some 5),(.q (.mv (.t 16))),none,0⟩]))))))
(.seq (.reg [⟨(some 4),(.q (.mv (.c (.bool true)))),none,0⟩])
.ret))))⟩
theorem row15 : Row Tryz.prog (15, a15) := ⟨Tryz.f15, Tryz.func15, by kernel_rfl⟩
noncomputable def a16 : AFn :=
⟨31,[(.cell 4 true 3)],(.seq (.reg [⟨(some 4),(.a (.alloc 43 [(.bool false),.nilsl,.nilsl])),none,0⟩])
(.seq (.reg [⟨(some 6),(.q (.mv (.t 0))),none,0⟩,
⟨(some 7),(.q (.mv (.t 0))),none,0⟩,
⟨(some 8),(.q (.un .neg (.t 7))),none,0⟩,
⟨(some 9),(.q (.minmax true [(.t 6),(.t 8)])),none,0⟩,
⟨(some 10),(.q (.mv (.t 1))),none,0⟩,
⟨(some 11),(.x (.call (.c (.fn 51 [] [])) [(.t 9),(.t 10)])),none,0⟩,
⟨(some 5),(.q (.mv (.t 11))),none,0⟩])
(.seq (.drw [⟨(some 12),(.q (.mv (.t 0))),none,0⟩,
⟨(some 13),(.q (.mv (.t 5))),none,0⟩,
⟨(some 14),(.q (.bin .quo (.p .int) (.t 12) (.t 13))),none,3⟩,
⟨(some 15),(.q (.mv (.t 1))),none,0⟩,
⟨(some 16),(.q (.mv (.t 5))),none,0⟩,
⟨(some 17),(.q (.bin .quo (.p .int) (.t 15) (.t 16))),none,24⟩,
⟨(some 0),(.q (.mv (.t 14))),none,7⟩,
⟨(some 1),(.q (.mv (.t 17))),none,127⟩])
(.seq (.seq (.reg [⟨(some 18),(.q (.mv (.t 0))),none,0⟩,
⟨(some 19),(.q (.bin .lss (.p .int) (.t 18) (.c (.int .i64 (.ofNat 0))))),none,0⟩])
(.cond (.t 19) (.seq (.reg [⟨(some 20),(.q (.mv (.t 0))),none,0⟩,
⟨(some 21),(.q (.un .neg (.t 20))),none,0⟩,
⟨(some 22),(.x (.call (.c (.fn 52 [] [])) [(.t 21)])),none,0⟩,
⟨(some 23),(.q (.mv (.t 1))),none,0⟩,
⟨(some 24),(.x (.call (.c (.fn 52 [] [])) [(.t 23)])),none,0⟩,
⟨(some 25),(.q (.build [(.bool false),.nilsl,.nilsl] [(0,1,(.c (.bool true))),(1,1,(.t 22)),(2,1,(.t 24))])),none,0⟩,
⟨none,(.x (.st 3 (.t 4) (.t 25))),none,0⟩])
.ret) .skip))
(.seq (.reg [⟨(some 26),(.q (.mv (.t 0))),none,0⟩,
⟨(some 27),(.x (.call (.c (.fn 52 [] [])) [(.t 26)])),none,0⟩,
⟨(some 28),(.q (.mv (.t 1))),none,0⟩,
⟨(some 29),(.x (.call (.c (.fn 52 [] [])) [(.t 28)])),none,0⟩,
⟨(some 30),(.q (.build [(.bool false),.nilsl,.nilsl] [(1,1,(.t 27)),(2,1,(.t 29))])),none,0⟩,
⟨none,(.x (.st 3 (.t 4) (.t 30))),none,0⟩])
.ret)))))⟩
theorem row16 : Row Tryz.prog (16, a16) := ⟨Tryz.f16, Tryz.func16, by kernel_rfl⟩
noncomputable def a18 : AFn :=
⟨23,[(.cell 0 true 3)],(.seq (.reg [⟨(some 0),(.a (.alloc 31 [(.int .i64 (.ofNat 0)),.nilsl,.nilsl])),none,0⟩])
(.seq (.reg [⟨(some 1),(.q (.build [(.int .i64 (.ofNat 0)),(.int .i64 (.ofNat 0))] [(0,1,(.c (.int .i64 (.ofNat 0)))),(1,1,(.c (.int .i64 (.ofNat 2))))])),none,0⟩,
⟨(some 2),(.q (.build [(.int .i64 (.ofNat 0)),(.int .i64 (.ofNat 0))] [(0,1,(.c (.int .i64 (.ofNat 1)))),(1,1,(.c (.int .i64 (.ofNat 2))))])),none,0⟩,
⟨(some 3),(.q (.build [(.int .i64 (.ofNat 0)),(.int .i64 (.ofNat 0))] [(0,1,(.c (.int .i64 (.ofNat 0)))),(1,1,(.c (.int .i64 (.ofNat 3))))])),none,0⟩,
⟨(some 4),(.a (.bslice 78 2 3 [(.int .i64 (.ofNat 0)),(.int .i64 (.ofNat 0))] [(0,(.t 1)),(1,(.t 2)),(2,(.t 3))])),none,0⟩,
⟨(some 5),(.a (.bslice 3 1 2 [(.int .i64 (.ofNat 0))] [(0,(.c (.int .i64 (.ofNat 1)))),(1,(.c (.int .i64 (.ofNat 2))))])),none,0⟩,
⟨(some 6),(.q (.build [(.int .i64 (.ofNat 0)),(.int .i64 (.ofNat 0)),(.int .i64 (.ofNat 0)),.nilsl,.nilsl,.nilsl] [(0,1,(.c (.int .i64 (.ofNat 2)))),(3,1,(.t 5))])),none,0⟩,
⟨(some 7),(.a (.bslice 3 1 2 [(.int .i64 (.ofNat 0))] [(0,(.c (.int .i64 (.ofNat 1)))),(1,(.c (.int .i64 (.negSucc 0))))])),none,0⟩,
⟨(some 8),(.q (.build [(.int .i64 (.ofNat 0)),(.int .i64 (.ofNat 0)),(.int .i64 (.ofNat 0)),.nilsl,.nilsl,.nilsl] [(0,1,(.c (.int .i64 (.ofNat 3)))),(5,1,(.t 7))])),none,0⟩,
⟨(some 9),(.a (.bslice 3 1 2 [(.int .i64 (.ofNat 0))] [(0,(.c (.int .i64 (.ofNat 3)))),(1,(.c (.int .i64 (.ofNat 4))))])),none,0⟩,
⟨(some 10),(.q (.build [(.int .i64 (.ofNat 0)),(.int .i64 (.ofNat 0)),(.int .i64 (.ofNat 0)),.nilsl,.nilsl,.nilsl] [(0,1,(.c (.int .i64 (.ofNat 2)))),(1,1,(.c (.int .i64 (.ofNat 1)))),(2,1,(.c (.int .i64 (.ofNat 1)))),(3,1,(.t 9))])),none,0⟩,
⟨(some 11),(.a (.bslice 3 1 2 [(.int .i64 (.ofNat 0))] [(0,(.c (.int .i64 (.ofNat 0)))),(1,(.c (.int .i64 (.ofNat 0))))])),none,0⟩,
⟨(some 12),(.q (.build [(.int .i64 (.ofNat 0)),(.int .i64 (.ofNat 0)),(.int .i64 (.ofNat 0)),.nilsl,.nilsl,.nilsl] [(0,1,(.c (.int .i64 (.ofNat 3)))),(5,1,(.t 11))])),none,0⟩,
⟨(some 13),(.a (.bslice 3 1 3 [(.int .i64 (.ofNat 0))] [(0,(.c (.int .i64 (.ofNat 5)))),(1,(.c (.int .i64 (.ofNat 6)))),(2,(.c (.int .i64 (.ofNat 7))))])),none,0⟩,
⟨(some 14),(.q (.build [(.int .i64 (.ofNat 0)),(.int .i64 (.ofNat 0)),(.int .i64 (.ofNat 0)),.nilsl,.nilsl,.nilsl] [(0,1,(.c (.int .i64 (.ofNat 2)))),(2,1,(.c (.int .i64 (.ofNat 2)))),(3,1,(.t 13))])),none,0⟩,
⟨(some 15),(.a (.bslice 3 1 2 [(.int .i64 (.ofNat 0))] [(0,(.c (.int .i64 (.ofNat 2)))),(1,(.c (.int .i64 (.negSucc 1))))])),none,0⟩,
⟨(some 16),(.q (.build [(.int .i64 (.ofNat 0)),(.int .i64 (.ofNat 0)),(.int .i64 (.ofNat 0)),.nilsl,.nilsl,.nilsl] [(0,1,(.c (.int .i64 (.ofNat 3)))),(5,1,(.t 15))])),none,0⟩,
⟨(some 17),(.a (.bslice 3 1 2 [(.int .i64 (.ofNat 0))] [(0,(.c (.int .i64 (.negSucc 0)))),(1,(.c (.int .i64 (.ofNat 1))))])),none,0⟩,
⟨(some 18),(.q (.build [(.int .i64 (.ofNat 0)),(.int .i64 (.ofNat 0)),(.int .i64 (.ofNat 0)),.nilsl,.nilsl,.nilsl] [(0,1,(.c (.int .i64 (.ofNat 3)))),(5,1,(.t 17))])),none,0⟩,
⟨(some 19),(.a (.bslice 3 1 2 [(.int .i64 (.ofNat 0))] [(0,(.c (.int .i64 (.ofNat 3)))),(1,(.c (.int .i64 (.negSucc 2))))])),none,0⟩,
⟨(some 20),(.q (.build [(.int .i64 (.ofNat 0)),(.int .i64 (.ofNat 0)),(.int .i64 (.ofNat 0)),.nilsl,.nilsl,.nilsl] [(0,1,(.c (.int .i64 (.ofNat 3)))),(5,1,(.t 19))])),none,0⟩,
⟨(some 21),(.a (.bslice 75 6 8 [(.int .i64 (.ofNat 0)),(.int .i64 (.ofNat 0)),(.int .i64 (.ofNat 0)),.nilsl,.nilsl,.nilsl] [(0,(.t 6)),(1,(.t 8)),(2,(.t 10)),(3,(.t 12)),(4,(.t 14)),(5,(.t 16)),(6,(.t 18)),(7,(.t 20))])),none,0⟩,
⟨(some 22),(.q (.build [(.int .i64 (.ofNat 0)),.nilsl,.nilsl] [(0,1,(.c (.int .i64 (.ofNat 2)))),(2,1,(.t 4)),(1,1,(.t 21))])),none,0⟩,
⟨none,(.x (.st 3 (.t 0) (.t 22))),none,0⟩])
.ret))⟩
theorem row18 : Row Tryz.prog (18, a18) := ⟨Tryz.f18, Tryz.func18, by kernel_rfl⟩
noncomputable def a19 : AFn :=
⟨23,[(.t 4)],(.seq (.reg [⟨(some 4),(.q (.mv (.c .nilsl))),none,0⟩])
(.seq (.reg [⟨(some 5),(.q (.mv (.c .nilsl))),none,0⟩])
(.seq (.seq (.reg [⟨(some 6),(.q (.mv (.c (.int .i64 (.ofNat 0))))),none,0⟩])
(.block 0 (.loop (.seq (.seq (.reg [⟨(some 7),(.q (.mv (.t 6))),none,0⟩,
⟨(some 8),(.q (.mv (.t 1))),none,0⟩,
⟨(some 9),(.q (.lenSl (.t 8))),none,0⟩,
⟨(some 10),(.q (.bin .lss (.p .int) (.t 7) (.t 9))),none,0⟩])
(.cond (.t 10) .skip (.exit 0)))
(.seq (.block 1 (.reg [⟨(some 13),(.q (.mv (.t 5))),none,0⟩,
⟨(some 14),(.q (.mv (.t 1))),none,0⟩,
⟨(some 15),(.q (.mv (.t 6))),none,0⟩,
⟨(some 16),(.q (.iaddr (.slice 1) (.t 14) (.t 15))),none,0⟩,
⟨(some 17),(.q (.ld false 1 (.t 16))),none,0⟩,
⟨(some 18),(.q (.mv (.t 0))),none,0⟩,
⟨(some 19),(.x (.call (.c (.fn 54 [] [])) [(.t 17),(.t 18)])),none,0⟩,
⟨(some 20),(.a (.bslice 43 3 1 [(.bool false),.nilsl,.nilsl] [(0,(.t 19))])),none,0⟩,
⟨(some 21),(.x (.app 43 3 56 (.t 13) (.t 20))),none,0⟩,
⟨(some 5),(.q (.mv (.t 21))),none,0⟩]))
(.reg [⟨(some 11),(.q (.mv (.t 6))),none,0⟩,
⟨(some 12),(.q (.bin .add (.p .int) (.t 11) (.c (.int .i64 (.ofNat 1))))),none,0⟩,
⟨(some 6),(.q (.mv (.t 12))),none,0⟩]))))))
(.seq (.reg [⟨(some 22),(.q (.mv (.t 5))),none,0⟩,
⟨(some 4),(.q (.mv (.t 22))),none,0⟩])
.ret))))⟩
theorem row19 : Row Tryz.prog (19, a19) := ⟨Tryz.f19, Tryz.func19, by kernel_rfl⟩
noncomputable def a20 : AFn :=
⟨68,[(.cell 12 true 3),(.t 13)],(.seq (.reg [⟨(some 6),(.a (.box 31 (.t 0))),none,0⟩,
⟨(some 7),(.a (.box 52 (.t 1))),none,0⟩,
⟨(some 12),(.a (.alloc 43 [(.bool false),.nilsl,.nilsl])),none,0⟩,
⟨(some 13),(.q (.mv (.c (.int .i64 (.ofNat 0))))),none,0⟩])
(.seq (.reg [⟨(some 17),(.q (.ld true 3 (.t 6))),none,0⟩,
⟨(some 18),(.q (.ld true 2 (.t 7))),none,0⟩,
⟨(some 19),(.q (.mv (.t 2))),none,0⟩,
⟨(some 20),(.q (.mv (.t 3))),none,0⟩,
⟨(some 21),(.x (.call (.c (.fn 55 [] [])) [(.t 17),(.t 18),(.t 19),(.t 20)])),none,0⟩,
⟨(some 16),(.q (.mv (.t 21))),none,0⟩,
⟨(some 22),(.q (.extract (.t 16) 0)),none,0⟩,
⟨(some 23),(.q (.extract (.t 16) 1)),none,0⟩,
⟨(some 14),(.a (.alloc 92 [(.int .i64 (.ofNat 0)),.nilsl,.nilsl,.nilfn,.nilsl,(.int .i64 (.ofNat 0))])),none,0⟩,
⟨none,(.x (.st 6 (.t 14) (.t 22))),none,0⟩,
⟨(some 15),(.q (.mv (.t 23))),none,0⟩])
(.seq (.seq (.reg [⟨(some 24),(.q (.mv (.t 15))),none,0⟩,
⟨(some 25),(.q (.bin .neq (.p .int) (.t 24) (.c (.int .i64 (.ofNat 0))))),none,0⟩])
(.cond (.t 25) (.seq (.reg [⟨(some 26),(.q (.build [(.bool false),.nilsl,.nilsl] [])),none,0⟩,
⟨(some 27),(.q (.mv (.t 15))),none,0⟩,
⟨none,(.x (.st 3 (.t 12) (.t 26))),none,0⟩,
⟨(some 13),(.q (.mv (.t 27))),none,0⟩])
.ret) .skip))
(.seq (.seq (.reg [⟨(some 28),(.q (.mv (.t 4))),none,0⟩,
⟨(some 29),(.q (.bin .lss (.p .int) (.t 28) (.c (.int .i64 (.ofNat 0))))),none,0⟩,
⟨(some 30),(.q (.mv (.t 29))),none,0⟩,
⟨(some 31),(.q (.mv (.t 4))),(some (30,false)),0⟩,
⟨(some 32),(.q (.faddr 1 (.t 6))),(some (30,false)),0⟩,
⟨(some 33),(.q (.ld false 1 (.t 32))),(some (30,false)),0⟩,
⟨(some 34),(.q (.lenSl (.t 33))),(some (30,false)),0⟩,
⟨(some 35),(.q (.bin .geq (.p .int) (.t 31) (.t 34))),(some (30,false)),0⟩,
⟨(some 36),(.q (.pick (.t 30) (.c (.bool true)) (.t 35))),none,0⟩,
⟨(some 37),(.q (.mv (.t 36))),none,0⟩,
⟨(some 38),(.q (.mv (.t 5))),(some (37,false)),0⟩,
⟨(some 39),(.q (.bin .lss (.p .int) (.t 38) (.c (.int .i64 (.ofNat 0))))),(some (37,false)),0⟩,
⟨(some 40),(.q (.pick (.t 37) (.c (.bool true)) (.t 39))),none,0⟩,
⟨(some 41),(.q (.mv (.t 40))),none,0⟩,
⟨(some 42),(.q (.mv (.t 5))),(some (41,false)),0⟩,
⟨(some 43),(.q (.faddr 1 (.t 6))),(some (41,false)),0⟩,
⟨(some 44),(.q (.ld false 1 (.t 43))),(some (41,false)),0⟩,
⟨(some 45),(.q (.mv (.t 4))),(some (41,false)),0⟩,
⟨(some 46),(.q (.iaddr (.slice 6) (.t 44) (.t 45))),(some (41,false)),0⟩,
⟨(some 47),(.q (.faddr 3 (.t 46))),(some (41,false)),0⟩,
⟨(some 48),(.q (.ld false 1 (.t 47))),(some (41,false)),0⟩,
⟨(some 49),(.q (.lenSl (.t 48))),(some (41,false)),0⟩,
⟨(some 50),(.q (.bin .geq (.p .int) (.t 42) (.t 49))),(some (41,false)),0⟩,
⟨(some 51),(.q (.pick (.t 41) (.c (.bool true)) (.t 50))),none,0⟩])
(.cond (.t 51) (.seq (.reg [⟨(some 52),(.q (.build [(.bool false),.nilsl,.nilsl] [])),none,0⟩,
⟨none,(.x (.st 3 (.t 12) (.t 52))),none,0⟩,
⟨(some 13),(.q (.mv (.c (.int .i64 (.ofNat 2))))),none,0⟩])
.ret) .skip))
(.seq (.drw [⟨(some 53),(.q (.ld true 6 (.t 14))),none,0⟩,
⟨(some 54),(.q (.mv (.t 4))),none,0⟩,
⟨(some 55),(.q (.faddr 1 (.t 6))),none,0⟩,
⟨(some 56),(.q (.ld false 1 (.t 55))),none,4⟩,
⟨(some 57),(.q (.mv (.t 4))),none,0⟩,
⟨(some 58),(.q (.iaddr (.slice 6) (.t 56) (.t 57))),none,28⟩,
⟨(some 59),(.q (.faddr 3 (.t 58))),none,60⟩,
⟨(some 60),(.q (.ld false 1 (.t 59))),none,124⟩,
⟨(some 61),(.q (.mv (.t 5))),none,0⟩,
⟨(some 62),(.q (.iaddr (.slice 1) (.t 60) (.t 61))),none,508⟩,
⟨(some 63),(.q (.ld false 1 (.t 62))),none,1020⟩,
⟨(some 64),(.x (.call (.c (.fn 56 [] [])) [(.t 53),(.t 54),(.t 63)])),none,2047⟩,
⟨(some 65),(.x (.call (.c (.fn 57 [] [])) [(.t 64)])),none,4095⟩,
⟨(some 66),(.q (.extract (.t 65) 0)),none,8191⟩,
⟨(some 67),(.q (.extract (.t 65) 1)),none,8191⟩,
⟨none,(.x (.st 3 (.t 12) (.t 66))),none,32767⟩,
⟨(some 13),(.q (.mv (.t 67))),none,65535⟩])
.ret)))))⟩
theorem row20 : Row Tryz.prog (20, a20) := ⟨Tryz.f20, Tryz.func20, by kernel_rfl⟩
noncomputable def a21 : AFn :=
⟨6,[(.cell 0 true 2)],(.seq (.reg [⟨(some 0),(.a (.alloc 52 [(.int .i64 (.ofNat 0)),.nilsl])),none,0⟩])
(.seq (.reg [⟨(some 1),(.a (.bslice 3 1 2 [(.int .i64 (.ofNat 0))] [(0,(.c (.int .i64 (.ofNat 1)))),(1,(.c (.int .i64 (.ofNat 1))))])),none,0⟩,
⟨(some 2),(.a (.bslice 3 1 2 [(.int .i64 (.ofNat 0))] [(0,(.c (.int .i64 (.ofNat 1)))),(1,(.c (.int .i64 (.ofNat 1))))])),none,0⟩,
⟨(some 3),(.a (.bslice 3 1 3 [(.int .i64 (.ofNat 0))] [(0,(.c (.int .i64 (.ofNat 1)))),(1,(.c (.int .i64 (.ofNat 1)))),(2,(.c (.int .i64 (.ofNat 0))))])),none,0⟩,
⟨(some 4),(.a (.bslice 24 1 3 [.nilsl] [(0,(.t 1)),(1,(.t 2)),(2,(.t 3))])),none,0⟩,
⟨(some 5),(.q (.build [(.int .i64 (.ofNat 0)),.nilsl] [(0,1,(.c (.int .i64 (.ofNat 1)))),(1,1,(.t 4))])),none,0⟩,
⟨none,(.x (.st 2 (.t 0) (.t 5))),none,0⟩])
.ret))⟩
theorem row21 : Row Tryz.prog (21, a21) := ⟨Tryz.f21, Tryz.func21, by kernel_rfl⟩
noncomputable def a22 : AFn :=
⟨3,[(.t 0)],(.seq (.reg [⟨(some 0),(.q (.mv (.c .nilsl))),none,0⟩])
(.seq (.reg [⟨(some 1),(.a (.bslice 3 1 8 [(.int .i64 (.ofNat 0))] [(0,(.c (.int .i64 (.ofNat 0)))),(1,(.c (.int .i64 (.ofNat 0)))),(2,(.c (.int .i64 (.ofNat 0)))),(3,(.c (.int .i64 (.ofNat 0)))),(4,(.c (.int .i64 (.ofNat 4)))),(5,(.c (.int .i64 (.ofNat 0)))),(6,(.c (.int .i64 (.ofNat 0)))),(7,(.c (.int .i64 (.ofNat 0))))])),none,0⟩,
⟨(some 2),(.x (.call (.c (.fn 19 [] [])) [(.c (.int .i64 (.ofNat 1))),(.t 1)])),none,0⟩,
⟨(some 0),(.q (.mv (.t 2))),none,0⟩])
.ret))⟩
theorem row22 : Row Tryz.prog (22, a22) := ⟨Tryz.f22, Tryz.func22, by kernel_rfl⟩
noncomputable def a23 : AFn :=
⟨35,[(.cell 12 true 3),(.t 13)],(.seq (.reg [⟨(some 6),(.a (.box 31 (.t 0))),none,0⟩,
⟨(some 7),(.a (.box 52 (.t 1))),none,0⟩,
⟨(some 12),(.a (.alloc 43 [(.bool false),.nilsl,.nilsl])),none,0⟩,
⟨(some 13),(.q (.mv (.c (.int .i64 (.ofNat 0))))),none,0⟩])
(.seq (.reg [⟨(some 17),(.q (.ld true 3 (.t 6))),none,0⟩,
⟨(some 18),(.q (.ld true 2 (.t 7))),none,0⟩,
⟨(some 19),(.q (.mv (.t 2))),none,0⟩,
⟨(some 20),(.q (.mv (.t 3))),none,0⟩,
⟨(some 21),(.x (.call (.c (.fn 55 [] [])) [(.t 17),(.t 18),(.t 19),(.t 20)])),none,0⟩,
⟨(some 16),(.q (.mv (.t 21))),none,0⟩,
⟨(some 22),(.q (.extract (.t 16) 0)),none,0⟩,
⟨(some 23),(.q (.extract (.t 16) 1)),none,0⟩,
⟨(some 14),(.a (.alloc 92 [(.int .i64 (.ofNat 0)),.nilsl,.nilsl,.nilfn,.nilsl,(.int .i64 (.ofNat 0))])),none,0⟩,
⟨none,(.x (.st 6 (.t 14) (.t 22))),none,0⟩,
⟨(some 15),(.q (.mv (.t 23))),none,0⟩])
(.seq (.seq (.reg [⟨(some 24),(.q (.mv (.t 15))),none,0⟩,
⟨(some 25),(.q (.bin .neq (.p .int) (.t 24) (.c (.int .i64 (.ofNat 0))))),none,0⟩])
(.cond (.t 25) (.seq (.reg [⟨(some 26),(.q (.build [(.bool false),.nilsl,.nilsl] [])),none,0⟩,
⟨(some 27),(.q (.mv (.t 15))),none,0⟩,
⟨none,(.x (.st 3 (.t 12) (.t 26))),none,0⟩,
⟨(some 13),(.q (.mv (.t 27))),none,0⟩])
.ret) .skip))
(.seq (.reg [⟨(some 28),(.q (.ld true 6 (.t 14))),none,0⟩,
⟨(some 29),(.x (.call (.c (.fn 58 [] [])) [(.t 28)])),none,0⟩,
⟨(some 30),(.q (.iaddr (.slice 3) (.t 29) (.c (.int .i64 (.ofNat 0))))),none,0⟩,
⟨(some 31),(.q (.ld true 3 (.t 30))),none,0⟩,
⟨(some 32),(.x (.call (.c (.fn 57 [] [])) [(.t 31)])),none,0⟩,
⟨(some 33),(.q (.extract (.t 32) 0)),none,0⟩,
⟨(some 34),(.q (.extract (.t 32) 1)),none,0⟩,
⟨none,(.x (.st 3 (.t 12) (.t 33))),none,0⟩,
⟨(some 13),(.q (.mv (.t 34))),none,0⟩])
.ret))))⟩
theorem row23 : Row Tryz.prog (23, a23) := ⟨Tryz.f23, Tryz.func23, by kernel_rfl⟩
noncomputable def a24 : AFn :=
⟨36,[(.cell 12 true 3),(.t 13)],(.seq (.reg [⟨(some 6),(.a (.box 31 (.t 0))),none,0⟩,
⟨(some 7),(.a (.box 52 (.t 1))),none,0⟩,
⟨(some 12),(.a (.alloc 43 [(.bool false),.nilsl,.nilsl])),none,0⟩,
⟨(some 13),(.q (.mv (.c (.int .i64 (.ofNat 0))))),none,0⟩])
(.seq (.reg [⟨(some 17),(.q (.ld true 3 (.t 6))),none,0⟩,
⟨(some 18),(.q (.ld true 2 (.t 7))),none,0⟩,
⟨(some 19),(.q (.mv (.t 2))),none,0⟩,
⟨(some 20),(.q (.mv (.t 3))),none,0⟩,
⟨(some 21),(.x (.call (.c (.fn 55 [] [])) [(.t 17),(.t 18),(.t 19),(.t 20)])),none,0⟩,
⟨(some 16),(.q (.mv (.t 21))),none,0⟩,
⟨(some 22),(.q (.extract (.t 16) 0)),none,0⟩,
⟨(some 23),(.q (.extract (.t 16) 1)),none,0⟩,
⟨(some 14),(.a (.alloc 92 [(.int .i64 (.ofNat 0)),.nilsl,.nilsl,.nilfn,.nilsl,(.int .i64 (.ofNat 0))])),none,0⟩,
⟨none,(.x (.st 6 (.t 14) (.t 22))),none,0⟩,
⟨(some 15),(.q (.mv (.t 23))),none,0⟩])
(.seq (.seq (.reg [⟨(some 24),(.q (.mv (.t 15))),none,0⟩,
⟨(some 25),(.q (.bin .neq (.p .int) (.t 24) (.c (.int .i64 (.ofNat 0))))),none,0⟩])
(.cond (.t 25) (.seq (.reg [⟨(some 26),(.q (.build [(.bool false),.nilsl,.nilsl] [])),none,0⟩,
⟨(some 27),(.q (.mv (.t 15))),none,0⟩,
⟨none,(.x (.st 3 (.t 12) (.t 26))),none,0⟩,
⟨(some 13),(.q (.mv (.t 27))),none,0⟩])
.ret) .skip))
(.seq (.drw [⟨(some 28),(.q (.ld true 6 (.t 14))),none,0⟩,
⟨(some 29),(.q (.mv (.t 4))),none,0⟩,
⟨(some 30),(.q (.mv (.t 5))),none,0⟩,
⟨(some 31),(.x (.call (.c (.fn 60 [] [])) [(.t 29),(.t 30)])),none,6⟩,
⟨(some 32),(.x (.call (.c (.fn 59 [] [])) [(.t 28),(.t 31)])),none,15⟩,
⟨(some 33),(.x (.call (.c (.fn 57 [] [])) [(.t 32)])),none,31⟩,
⟨(some 34),(.q (.extract (.t 33) 0)),none,63⟩,
⟨(some 35),(.q (.extract (.t 33) 1)),none,63⟩,
⟨none,(.x (.st 3 (.t 12) (.t 34))),none,255⟩,
⟨(some 13),(.q (.mv (.t 35))),none,511⟩])
.ret))))⟩
theorem row24 : Row Tryz.prog (24, a24) := ⟨Tryz.f24, Tryz.func24, by kernel_rfl⟩
noncomputable def a25 : AFn :=
⟨99,[(.cell 14 true 3),(.t 15)],(.seq (.reg [⟨(some 7),(.a (.box 31 (.t 0))),none,0⟩,
⟨(some 8),(.a (.box 52 (.t 1))),none,0⟩,
⟨(some 14),(.a (.alloc 43 [(.bool false),.nilsl,.nilsl])),none,0⟩,
⟨(some 15),(.q (.mv (.c (.int .i64 (.ofNat 0))))),none,0⟩])
(.seq (.reg [⟨(some 25),(.q (.ld true 3 (.t 7))),none,0⟩,
⟨(some 26),(.q (.ld true 2 (.t 8))),none,0⟩,
⟨(some 27),(.q (.mv (.t 2))),none,0⟩,
⟨(some 28),(.q (.mv (.t 3))),none,0⟩,
⟨(some 29),(.x (.call (.c (.fn 55 [] [])) [(.t 25),(.t 26),(.t 27),(.t 28)])),none,0⟩,
⟨(some 24),(.q (.mv (.t 29))),none,0⟩,
⟨(some 30),(.q (.extract (.t 24) 0)),none,0⟩,
⟨(some 31),(.q (.extract (.t 24) 1)),none,0⟩,
⟨(some 16),(.a (.alloc 92 [(.int .i64 (.ofNat 0)),.nilsl,.nilsl,.nilfn,.nilsl,(.int .i64 (.ofNat 0))])),none,0⟩,
⟨none,(.x (.st 6 (.t 16) (.t 30))),none,0⟩,
⟨(some 17),(.q (.mv (.t 31))),none,0⟩])
(.seq (.seq (.reg [⟨(some 32),(.q (.mv (.t 17))),none,0⟩,
⟨(some 33),(.q (.bin .neq (.p .int) (.t 32) (.c (.int .i64 (.ofNat 0))))),none,0⟩])
(.cond (.t 33) (.seq (.reg [⟨(some 34),(.q (.build [(.bool false),.nilsl,.nilsl] [])),none,0⟩,
⟨(some 35),(.q (.mv (.t 17))),none,0⟩,
⟨none,(.x (.st 3 (.t 14) (.t 34))),none,0⟩,
⟨(some 15),(.q (.mv (.t 35))),none,0⟩])
.ret) .skip))
(.seq (.reg [⟨(some 37),(.q (.ld true 3 (.t 7))),none,0⟩,
⟨(some 38),(.q (.ld true 2 (.t 8))),none,0⟩,
⟨(some 39),(.q (.mv (.t 6))),none,0⟩,
⟨(some 40),(.x (.call (.c (.fn 41 [] [])) [(.t 37),(.t 38),(.t 39)])),none,0⟩,
⟨(some 36),(.q (.mv (.t 40))),none,0⟩,
⟨(some 41),(.q (.extract (.t 36) 0)),none,0⟩,
⟨(some 42),(.q (.extract (.t 36) 1)),none,0⟩,
⟨(some 18),(.q (.mv (.t 41))),none,0⟩,
⟨(some 17),(.q (.mv (.t 42))),none,0⟩])
(.seq (.seq (.reg [⟨(some 43),(.q (.mv (.t 17))),none,0⟩,
⟨(some 44),(.q (.bin .neq (.p .int) (.t 43) (.c (.int .i64 (.ofNat 0))))),none,0⟩])
(.cond (.t 44) (.seq (.reg [⟨(some 45),(.q (.build [(.bool false),.nilsl,.nilsl] [])),none,0⟩,
⟨(some 46),(.q (.mv (.t 17))),none,0⟩,
⟨none,(.x (.st 3 (.t 14) (.t 45))),none,0⟩,
⟨(some 15),(.q (.mv (.t 46))),none,0⟩])
.ret) .skip))
(.seq (.reg [⟨(some 47),(.q (.mv (.t 4))),none,0⟩,
⟨(some 48),(.q (.mv (.t 5))),none,0⟩,
⟨(some 49),(.x (.call (.c (.fn 60 [] [])) [(.t 47),(.t 48)])),none,0⟩,
⟨(some 19),(.q (.mv (.t 49))),none,0⟩])
(.seq (.reg [⟨(some 20),(.a (.alloc 105 [(.bool false),.nilsl,.nilsl])),none,0⟩])
(.seq (.seq (.reg [⟨(some 50),(.q (.mv (.t 18))),none,0⟩,
⟨(some 51),(.q (.slc (.slice 1) (.t 50) (some (.c (.int .i64 (.ofNat 1)))) none none)),none,0⟩,
⟨(some 52),(.q (.lenSl (.t 51))),none,0⟩,
⟨(some 53),(.q (.mv (.c (.int .i64 (.ofNat 0))))),none,0⟩])
(.block 0 (.loop (.seq (.reg [⟨(some 54),(.q (.bin .lss (.p .int) (.t 53) (.t 52))),none,0⟩])
(.seq (.cond (.t 54) .skip (.exit 0))
(.seq (.block 1 (.seq (.reg [⟨(some 55),(.q (.mv (.t 53))),none,0⟩,
⟨(some 56),(.q (.iaddr (.slice 1) (.t 51) (.t 53))),none,0⟩,
⟨(some 57),(.q (.ld false 1 (.t 56))),none,0⟩,
⟨(some 21),(.q (.mv (.t 55))),none,0⟩,
⟨(some 22),(.q (.mv (.t 57))),none,0⟩])
(.seq (.drw [⟨(some 58),(.q (.mv (.t 19))),none,0⟩,
⟨(some 59),(.q (.faddr 1 (.t 7))),none,0⟩,
⟨(some 60),(.q (.ld false 1 (.t 59))),none,2⟩,
⟨(some 61),(.q (.mv (.t 18))),none,0⟩,
⟨(some 62),(.q (.mv (.t 21))),none,0⟩,
⟨(some 63),(.q (.iaddr (.slice 1) (.t 61) (.t 62))),none,24⟩,
⟨(some 64),(.q (.ld false 1 (.t 63))),none,56⟩,
⟨(some 65),(.q (.iaddr (.slice 6) (.t 60) (.t 64))),none,126⟩,
⟨(some 66),(.q (.ld true 6 (.t 65))),none,254⟩,
⟨(some 67),(.x (.call (.c (.fn 61 [] [])) [(.t 58),(.t 66)])),none,511⟩])
(.cond (.t 67) (.drw [⟨(some 68),(.q (.ld true 6 (.t 16))),none,0⟩,
⟨(some 69),(.q (.mv (.t 18))),none,0⟩,
⟨(some 70),(.q (.mv (.t 21))),none,0⟩,
⟨(some 71),(.q (.iaddr (.slice 1) (.t 69) (.t 70))),none,6⟩,
⟨(some 72),(.q (.ld false 1 (.t 71))),none,14⟩,
⟨(some 73),(.q (.mv (.t 22))),none,0⟩,
⟨(some 74),(.x (.call (.c (.fn 56 [] [])) [(.t 68),(.t 72),(.t 73)])),none,63⟩,
⟨(some 75),(.x (.call (.c (.fn 62 [] [])) [(.t 20),(.t 74)])),none,127⟩]) .skip))))
(.reg [⟨(some 76),(.q (.bin .add (.p .int) (.t 53) (.c (.int .i64 (.ofNat 1))))),none,0⟩,
⟨(some 53),(.q (.mv (.t 76))),none,0⟩])))))))
(.seq (.drw [⟨(some 77),(.q (.faddr 1 (.t 7))),none,0⟩,
⟨(some 78),(.q (.ld false 1 (.t 77))),none,1⟩,
⟨(some 79),(.q (.mv (.t 18))),none,0⟩,
⟨(some 80),(.q (.mv (.t 18))),none,0⟩,
⟨(some 81),(.q (.lenSl (.t 80))),none,8⟩,
⟨(some 82),(.q (.bin .sub (.p .int) (.t 81) (.c (.int .i64 (.ofNat 1))))),none,24⟩,
⟨(some 83),(.q (.iaddr (.slice 1) (.t 79) (.t 82))),none,60⟩,
⟨(some 84),(.q (.ld false 1 (.t 83))),none,124⟩,
⟨(some 85),(.q (.iaddr (.slice 6) (.t 78) (.t 84))),none,255⟩,
⟨(some 86),(.q (.faddr 5 (.t 85))),none,511⟩,
⟨(some 87),(.q (.ld false 1 (.t 86))),none,1023⟩,
⟨(some 88),(.q (.mv (.t 3))),none,0⟩,
⟨(some 89),(.q (.iaddr (.slice 1) (.t 87) (.t 88))),none,4095⟩,
⟨(some 90),(.q (.ld false 1 (.t 89))),none,8191⟩,
⟨(some 23),(.q (.mv (.t 90))),none,16383⟩])
(.seq (.drw [⟨(some 91),(.q (.mv (.t 23))),none,0⟩,
⟨(some 92),(.x (.call (.c (.fn 63 [] [])) [(.t 91)])),none,1⟩,
⟨(some 93),(.q (.faddr 0 (.t 20))),none,0⟩,
⟨(some 94),(.q (.ld true 3 (.t 93))),none,4⟩,
⟨(some 95),(.x (.call (.c (.fn 64 [] [])) [(.t 92),(.t 94)])),none,15⟩,
⟨(some 96),(.x (.call (.c (.fn 57 [] [])) [(.t 95)])),none,31⟩,
⟨(some 97),(.q (.extract (.t 96) 0)),none,63⟩,
⟨(some 98),(.q (.extract (.t 96) 1)),none,63⟩,
⟨none,(.x (.st 3 (.t 14) (.t 97))),none,255⟩,
⟨(some 15),(.q (.mv (.t 98))),none,511⟩])
.ret))))))))))⟩
theorem row25 : Row Tryz.prog (25, a25) := ⟨Tryz.f25, Tryz.func25, by kernel_rfl⟩
noncomputable def a26 : AFn :=
⟨47,[(.t 0)],(.seq (.reg [⟨(some 0),(.q (.mv (.c (.bool false)))),none,0⟩])
(.seq (.reg [⟨(some 8),(.x (.call (.c (.fn 18 [] [])) [])),none,0⟩,
⟨(some 1),(.a (.alloc 31 [(.int .i64 (.ofNat 0)),.nilsl,.nilsl])),none,0⟩,
⟨none,(.x (.st 3 (.t 1) (.t 8))),none,0⟩])
(.seq (.drw [⟨(some 10),(.q (.ld true 3 (.t 1))),none,0⟩,
⟨(some 11),(.x (.call (.c (.fn 21 [] [])) [])),none,0⟩,
⟨(some 12),(.x (.call (.c (.fn 65 [] [])) [(.t 10),(.t 11),(.c (.int .i64 (.ofNat 0)))])),none,3⟩,
⟨(some 9),(.q (.mv (.t 12))),none,7⟩,
⟨(some 13),(.q (.extract (.t 9) 0)),none,15⟩,
⟨(some 14),(.q (.extract (.t 9) 1)),none,15⟩,
⟨(some 2),(.q (.mv (.t 13))),none,31⟩,
⟨(some 3),(.q (.mv (.t 14))),none,127⟩])
(.seq (.drw [⟨(some 16),(.q (.ld true 3 (.t 1))),none,0⟩,
⟨(some 17),(.x (.call (.c (.fn 21 [] [])) [])),none,0⟩,
⟨(some 18),(.x (.call (.c (.fn 22 [] [])) [])),none,2⟩,
⟨(some 19),(.x (.call (.c (.fn 20 [] [])) [(.t 16),(.t 17),(.t 18),(.c (.int .i64 (.ofNat 0))),(.c (.int .i64 (.ofNat 2))),(.c (.int .i64 (.ofNat 1)))])),none,7⟩,
⟨(some 15),(.q (.mv (.t 19))),none,15⟩,
⟨(some 20),(.q (.extract (.t 15) 0)),none,31⟩,
⟨(some 21),(.q (.extract (.t 15) 1)),none,31⟩,
⟨(some 4),(.a (.alloc 43 [(.bool false),.nilsl,.nilsl])),none,0⟩,
⟨none,(.x (.st 3 (.t 4) (.t 20))),none,191⟩,
⟨(some 5),(.q (.mv (.t 21))),none,511⟩])
(.seq (.drw [⟨(some 23),(.q (.ld true 3 (.t 1))),none,0⟩,
⟨(some 24),(.x (.call (.c (.fn 21 [] [])) [])),none,0⟩,
⟨(some 25),(.x (.call (.c (.fn 22 [] [])) [])),none,2⟩,
⟨(some 26),(.x (.call (.c (.fn 23 [] [])) [(.t 23),(.t 24),(.t 25),(.c (.int .i64 (.ofNat 0))),(.c (.bool true)),(.c (.bool true))])),none,7⟩,
⟨(some 22),(.q (.mv (.t 26))),none,15⟩,
⟨(some 27),(.q (.extract (.t 22) 0)),none,31⟩,
⟨(some 28),(.q (.extract (.t 22) 1)),none,31⟩,
⟨(some 6),(.a (.alloc 43 [(.bool false),.nilsl,.nilsl])),none,0⟩,
⟨none,(.x (.st 3 (.t 6) (.t 27))),none,191⟩,
⟨(some 7),(.q (.mv (.t 28))),none,511⟩])
(.seq (.reg [⟨(some 29),(.q (.mv (.t 3))),none,0⟩,
⟨(some 30),(.q (.bin .eql (.p .int) (.t 29) (.c (.int .i64 (.ofNat 0))))),none,0⟩,
⟨(some 31),(.q (.mv (.t 30))),none,0⟩,
⟨(some 32),(.q (.mv (.t 2))),(some (31,true)),0⟩,
⟨(some 33),(.a (.bslice 3 1 8 [(.int .i64 (.ofNat 0))] [(0,(.c (.int .i64 (.ofNat 5)))),(1,(.c (.int .i64 (.ofNat 8)))),(2,(.c (.int .i64 (.ofNat 2)))),(3,(.c (.int .i64 (.ofNat 0)))),(4,(.c (.int .i64 (.ofNat 4)))),(5,(.c (.int .i64 (.ofNat 16)))),(6,(.c (.int .i64 (.negSucc 7)))),(7,(.c (.int .i64 (.ofNat 24))))])),(some (31,true)),0⟩,
⟨(some 34),(.x (.call (.c (.fn 19 [] [])) [(.c (.int .i64 (.ofNat 8))),(.t 33)])),(some (31,true)),0⟩,
⟨(some 35),(.x (.call (.c (.fn 15 [] [])) [(.t 32),(.t 34)])),(some (31,true)),0⟩,
⟨(some 36),(.q (.pick (.t 31) (.t 35) (.c (.bool false)))),none,0⟩,
⟨(some 37),(.q (.mv (.t 36))),none,0⟩,
⟨(some 38),(.q (.ld true 3 (.t 4))),(some (37,true)),0⟩,
⟨(some 39),(.q (.mv (.t 5))),(some (37,true)),0⟩,
⟨(some 40),(.x (.call (.c (.fn 27 [] [])) [(.t 38),(.t 39),(.c (.int .i64 (.ofNat 2))),(.c (.int .i64 (.ofNat 1)))])),(some (37,true)),0⟩,
⟨(some 41),(.q (.pick (.t 37) (.t 40) (.c (.bool false)))),none,0⟩,
⟨(some 42),(.q (.mv (.t 41))),none,0⟩,
⟨(some 43),(.q (.ld true 3 (.t 6))),(some (42,true)),0⟩,
⟨(some 44),(.q (.mv (.t 7))),(some (42,true)),0⟩,
⟨(some 45),(.x (.call (.c (.fn 27 [] [])) [(.t 43),(.t 44),(.c (.int .i64 (.ofNat 5))),(.c (.int .i64 (.ofNat 8)))])),(some (42,true)),0⟩,
⟨(some 46),(.q (.pick (.t 42) (.t 45) (.c (.bool false)))),none,0⟩,
⟨(some 0),(.q (.mv (.t 46))),none,0⟩])
.ret))))))⟩
theorem row26 : Row Tryz.prog (26, a26) := ⟨Tryz.f26, Tryz.func26, by kernel_rfl⟩
noncomputable def a27 : AFn :=
⟨18,[(.t 8)],(.seq (.reg [⟨(some 4),(.a (.box 43 (.t 0))),none,0⟩,
⟨(some 8),(.q (.mv (.c (.bool false)))),none,0⟩])
(.seq (.drw [⟨(some 9),(.q (.mv (.t 1))),none,0⟩,
⟨(some 10),(.q (.bin .eql (.p .int) (.t 9) (.c (.int .i64 (.ofNat 0))))),none,1⟩,
⟨(some 11),(.q (.mv (.t 10))),none,3⟩,
⟨(some 12),(.q (.ld true 3 (.t 4))),(some (11,true)),7⟩,
⟨(some 13),(.q (.mv (.t 2))),(some (11,true)),7⟩,
⟨(some 14),(.q (.mv (.t 3))),(some (11,true)),7⟩,
⟨(some 15),(.x (.call (.c (.fn 54 [] [])) [(.t 13),(.t 14)])),(some (11,true)),55⟩,
⟨(some 16),(.x (.call (.c (.fn 50 [] [])) [(.t 12),(.t 15)])),(some (11,true)),127⟩,
⟨(some 17),(.q (.pick (.t 11) (.t 16) (.c (.bool false)))),none,255⟩,
⟨(some 8),(.q (.mv (.t 17))),none,511⟩])
.ret))⟩
theorem row27 : Row Tryz.prog (27, a27) := ⟨Tryz.f27, Tryz.func27, by kernel_rfl⟩
noncomputable def a41 : AFn :=
⟨31,[(.t 6),(.t 7)],(.seq (.reg [⟨(some 3),(.a (.box 31 (.t 0))),none,0⟩,
⟨(some 4),(.a (.box 52 (.t 1))),none,0⟩,
⟨(some 6),(.q (.mv (.c .nilsl))),none,0⟩,
⟨(some 7),(.q (.mv (.c (.int .i64 (.ofNat 0))))),none,0⟩])
(.seq (.reg [⟨(some 11),(.q (.ld true 3 (.t 3))),none,0⟩,
⟨(some 12),(.q (.ld true 2 (.t 4))),none,0⟩,
⟨(some 13),(.x (.call (.c (.fn 53 [] [])) [(.t 11),(.t 12)])),none,0⟩,
⟨(some 10),(.q (.mv (.t 13))),none,0⟩,
⟨(some 14),(.q (.extract (.t 10) 0)),none,0⟩,
⟨(some 15),(.q (.extract (.t 10) 1)),none,0⟩,
⟨(some 8),(.q (.mv (.t 14))),none,0⟩,
⟨(some 9),(.q (.mv (.t 15))),none,0⟩])
(.seq (.seq (.reg [⟨(some 16),(.q (.mv (.t 9))),none,0⟩,
⟨(some 17),(.q (.bin .neq (.p .int) (.t 16) (.c (.int .i64 (.ofNat 0))))),none,0⟩])
(.cond (.t 17) (.seq (.reg [⟨(some 18),(.q (.mv (.t 9))),none,0⟩,
⟨(some 6),(.q (.mv (.c .nilsl))),none,0⟩,
⟨(some 7),(.q (.mv (.t 18))),none,0⟩])
.ret) .skip))
(.seq (.seq (.reg [⟨(some 19),(.q (.mv (.t 2))),none,0⟩,
⟨(some 20),(.q (.bin .lss (.p .int) (.t 19) (.c (.int .i64 (.ofNat 0))))),none,0⟩,
⟨(some 21),(.q (.mv (.t 20))),none,0⟩,
⟨(some 22),(.q (.mv (.t 2))),(some (21,false)),0⟩,
⟨(some 23),(.q (.mv (.t 8))),(some (21,false)),0⟩,
⟨(some 24),(.q (.bin .geq (.p .int) (.t 22) (.t 23))),(some (21,false)),0⟩,
⟨(some 25),(.q (.pick (.t 21) (.c (.bool true)) (.t 24))),none,0⟩])
(.cond (.t 25) (.seq (.reg [⟨(some 6),(.q (.mv (.c .nilsl))),none,0⟩,
⟨(some 7),(.q (.mv (.c (.int .i64 (.ofNat 2))))),none,0⟩])
.ret) .skip))
(.seq (.reg [⟨(some 26),(.q (.ld true 3 (.t 3))),none,0⟩,
⟨(some 27),(.q (.ld true 2 (.t 4))),none,0⟩,
⟨(some 28),(.q (.mkIface 134 (.t 27))),none,0⟩,
⟨(some 29),(.q (.mv (.t 2))),none,0⟩,
⟨(some 30),(.x (.call (.c (.fn 44 [] [])) [(.t 26),(.t 28),(.t 29)])),none,0⟩,
⟨(some 6),(.q (.mv (.t 30))),none,0⟩,
⟨(some 7),(.q (.mv (.c (.int .i64 (.ofNat 0))))),none,0⟩])
.ret)))))⟩
theorem row41 : Row Tryz.prog (41, a41) := ⟨Tryz.f41, Tryz.func41, by kernel_rfl⟩
noncomputable def a44 : AFn :=
⟨19,[(.t 6)],(.seq (.reg [⟨(some 3),(.a (.box 31 (.t 0))),none,0⟩,
⟨(some 6),(.q (.mv (.c .nilsl))),none,0⟩])
(.seq (.reg [⟨(some 7),(.a (.alloc 24 [.nilsl])),none,0⟩])
(.seq (.seq (.reg [⟨(some 9),(.q (.ld true 3 (.t 3))),none,0⟩,
⟨(some 10),(.q (.mv (.t 1))),none,0⟩,
⟨(some 11),(.q (.mv (.t 2))),none,0⟩,
⟨(some 12),(.x (.call (.c (.fn 85 [] [])) [(.t 9),(.t 10),(.t 11)])),none,0⟩])
(.block 0 (.rng (.t 12) [13] (.reg [⟨(some 8),(.q (.mv (.t 13))),none,0⟩]) (.block 1 (.reg [⟨(some 14),(.q (.ld false 1 (.t 7))),none,0⟩,
⟨(some 15),(.q (.mv (.t 8))),none,0⟩,
⟨(some 16),(.a (.bslice 3 1 1 [(.int .i64 (.ofNat 0))] [(0,(.t 15))])),none,0⟩,
⟨(some 17),(.x (.app 3 1 8 (.t 14) (.t 16))),none,0⟩,
⟨none,(.x (.st 1 (.t 7) (.t 17))),none,0⟩])))))
(.seq (.reg [⟨(some 18),(.q (.ld false 1 (.t 7))),none,0⟩,
⟨(some 6),(.q (.mv (.t 18))),none,0⟩])
.ret))))⟩
theorem row44 : Row Tryz.prog (44, a44) := ⟨Tryz.f44, Tryz.func44, by kernel_rfl⟩
noncomputable def a50 : AFn :=
⟨24,[(.t 4)],(.seq (.reg [⟨(some 2),(.a (.box 43 (.t 0))),none,0⟩,
⟨(some 3),(.a (.box 43 (.t 1))),none,0⟩,
⟨(some 4),(.q (.mv (.c (.bool false)))),none,0⟩])
(.seq (.reg [⟨(some 5),(.q (.faddr 0 (.t 2))),none,0⟩,
⟨(some 6),(.q (.ld false 1 (.t 5))),none,0⟩,
⟨(some 7),(.q (.faddr 0 (.t 3))),none,0⟩,
⟨(some 8),(.q (.ld false 1 (.t 7))),none,0⟩,
⟨(some 9),(.q (.bin .eql (.p .bool) (.t 6) (.t 8))),none,0⟩,
⟨(some 10),(.q (.mv (.t 9))),none,0⟩,
⟨(some 11),(.q (.faddr 1 (.t 2))),(some (10,true)),0⟩,
⟨(some 12),(.q (.ld false 1 (.t 11))),(some (10,true)),0⟩,
⟨(some 13),(.q (.faddr 1 (.t 3))),(some (10,true)),0⟩,
⟨(some 14),(.q (.ld false 1 (.t 13))),(some (10,true)),0⟩,
⟨(some 15),(.x (.call (.c (.fn 92 [] [])) [(.t 12),(.t 14)])),(some (10,true)),0⟩,
⟨(some 16),(.q (.pick (.t 10) (.t 15) (.c (.bool false)))),none,0⟩,
⟨(some 17),(.q (.mv (.t 16))),none,0⟩,
⟨(some 18),(.q (.faddr 2 (.t 2))),(some (17,true)),0⟩,
⟨(some 19),(.q (.ld false 1 (.t 18))),(some (17,true)),0⟩,
⟨(some 20),(.q (.faddr 2 (.t 3))),(some (17,true)),0⟩,
⟨(some 21),(.q (.ld false 1 (.t 20))),(some (17,true)),0⟩,
⟨(some 22),(.x (.call (.c (.fn 92 [] [])) [(.t 19),(.t 21)])),(some (17,true)),0⟩,
⟨(some 23),(.q (.pick (.t 17) (.t 22) (.c (.bool false)))),none,0⟩,
⟨(some 4),(.q (.mv (.t 23))),none,0⟩])
.ret))⟩
theorem row50 : Row Tryz.prog (50, a50) := ⟨Tryz.f50, Tryz.func50, by kernel_rfl⟩
noncomputable def a51 : AFn :=
⟨15,[(.t 4)],(.seq (.reg [⟨(some 4),(.q (.mv (.c (.int .i64 (.ofNat 0))))),none,0⟩])
(.seq (.block 0 (.loop (.seq (.seq (.reg [⟨(some 5),(.q (.mv (.t 1))),none,0⟩,
⟨(some 6),(.q (.bin .neq (.p .int) (.t 5) (.c (.int .i64 (.ofNat 0))))),none,0⟩])
(.cond (.t 6) .skip (.exit 0)))
(.block 1 (.drw [⟨(some 7),(.q (.mv (.t 1))),none,0⟩,
⟨(some 8),(.q (.mv (.t 0))),none,0⟩,
⟨(some 9),(.q (.mv (.t 1))),none,0⟩,
⟨(some 10),(.q (.bin .rem (.p .int) (.t 8) (.t 9))),none,6⟩,
⟨(some 0),(.q (.mv (.t 7))),none,3⟩,
⟨(some 1),(.q (.mv (.t 10))),none,31⟩])))))
(.seq (.reg [⟨(some 11),(.q (.mv (.t 0))),none,0⟩,
⟨(some 12),(.q (.mv (.t 0))),none,0⟩,
⟨(some 13),(.q (.un .neg (.t 12))),none,0⟩,
⟨(some 14),(.q (.minmax true [(.t 11),(.t 13)])),none,0⟩,
⟨(some 4),(.q (.mv (.t 14))),none,0⟩])
.ret)))⟩
theorem row51 : Row Tryz.prog (51, a51) := ⟨Tryz.f51, Tryz.func51, by kernel_rfl⟩
noncomputable def a52 : AFn :=
⟨15,[(.t 2)],(.seq (.reg [⟨(some 2),(.q (.mv (.c .nilsl))),none,0⟩])
(.seq (.reg [⟨(some 3),(.q (.mv (.c .nilsl))),none,0⟩])
(.seq (.block 0 (.loop (.seq (.seq (.reg [⟨(some 4),(.q (.mv (.t 0))),none,0⟩,
⟨(some 5),(.q (.bin .gtr (.p .int) (.t 4) (.c (.int .i64 (.ofNat 0))))),none,0⟩])
(.cond (.t 5) .skip (.exit 0)))
(.block 1 (.seq (.reg [⟨(some 6),(.q (.mv (.t 3))),none,0⟩,
⟨(some 7),(.q (.mv (.t 0))),none,0⟩,
⟨(some 8),(.q (.bin .rem (.p .int) (.t 7) (.c (.int .i64 (.ofNat 1000000000))))),none,0⟩,
⟨(some 9),(.q (.conv (.int .u32) (.t 8))),none,0⟩,
⟨(some 10),(.a (.bslice 149 1 1 [(.int .u32 (.ofNat 0))] [(0,(.t 9))])),none,0⟩,
⟨(some 11),(.x (.app 149 1 4 (.t 6) (.t 10))),none,0⟩,
⟨(some 3),(.q (.mv (.t 11))),none,0⟩])
(.reg [⟨(some 12),(.q (.mv (.t 0))),none,0⟩,
⟨(some 13),(.q (.bin .quo (.p .int) (.t 12) (.c (.int .i64 (.ofNat 1000000000))))),none,0⟩,
⟨(some 0),(.q (.mv (.t 13))),none,0⟩]))))))
(.seq (.reg [⟨(some 14),(.q (.mv (.t 3))),none,0⟩,
⟨(some 2),(.q (.mv (.t 14))),none,0⟩])
.ret))))⟩
theorem row52 : Row Tryz.prog (52, a52) := ⟨Tryz.f52, Tryz.func52, by kernel_rfl⟩
noncomputable def a53 : AFn :=
⟨19,[(.t 4),(.t 5)],(.seq (.reg [⟨(some 2),(.a (.box 31 (.t 0))),none,0⟩,
⟨(some 3),(.a (.box 52 (.t 1))),none,0⟩,
⟨(some 4),(.q (.mv (.c (.int .i64 (.ofNat 0))))),none,0⟩,
⟨(some 5),(.q (.mv (.c (.int .i64 (.ofNat 0))))),none,0⟩])
(.seq (.seq (.reg [⟨(some 7),(.q (.ld true 3 (.t 2))),none,0⟩,
⟨(some 8),(.q (.ld true 2 (.t 3))),none,0⟩,
⟨(some 9),(.x (.call (.c (.fn 93 [] [])) [(.t 7),(.t 8)])),none,0⟩,
⟨(some 6),(.q (.mv (.t 9))),none,0⟩])
(.seq (.reg [⟨(some 10),(.q (.mv (.t 6))),none,0⟩,
⟨(some 11),(.q (.bin .neq (.p .int) (.t 10) (.c (.int .i64 (.ofNat 0))))),none,0⟩])
(.cond (.t 11) (.seq (.reg [⟨(some 12),(.q (.mv (.t 6))),none,0⟩,
⟨(some 4),(.q (.mv (.c (.int .i64 (.ofNat 0))))),none,0⟩,
⟨(some 5),(.q (.mv (.t 12))),none,0⟩])
.ret) .skip)))
(.seq (.reg [⟨(some 13),(.q (.ld true 3 (.t 2))),none,0⟩,
⟨(some 14),(.q (.ld true 2 (.t 3))),none,0⟩,
⟨(some 15),(.q (.mkIface 134 (.t 14))),none,0⟩,
⟨(some 16),(.x (.call (.c (.fn 94 [] [])) [(.t 13),(.t 15)])),none,0⟩,
⟨(some 17),(.q (.extract (.t 16) 0)),none,0⟩,
⟨(some 18),(.q (.extract (.t 16) 1)),none,0⟩,
⟨(some 4),(.q (.mv (.t 17))),none,0⟩,
⟨(some 5),(.q (.mv (.t 18))),none,0⟩])
.ret)))⟩
theorem row53 : Row Tryz.prog (53, a53) := ⟨Tryz.f53, Tryz.func53, by kernel_rfl⟩
noncomputable def a54 : AFn :=
⟨8,[(.cell 4 true 3)],(.seq (.reg [⟨(some 4),(.a (.alloc 43 [(.bool false),.nilsl,.nilsl])),none,0⟩])
(.seq (.reg [⟨(some 5),(.q (.mv (.t 0))),none,0⟩,
⟨(some 6),(.q (.mv (.t 1))),none,0⟩,
⟨(some 7),(.x (.call (.c (.fn 16 [] [])) [(.t 5),(.t 6)])),none,0⟩,
⟨none,(.x (.st 3 (.t 4) (.t 7))),none,0⟩])
.ret))⟩
theorem row54 : Row Tryz.prog (54, a54) := ⟨Tryz.f54, Tryz.func54, by kernel_rfl⟩
noncomputable def a55 : AFn :=
⟨67,[(.cell 8 true 6),(.t 9)],(.seq (.reg [⟨(some 4),(.a (.box 31 (.t 0))),none,0⟩,
⟨(some 5),(.a (.box 52 (.t 1))),none,0⟩,
⟨(some 8),(.a (.alloc 92 [(.int .i64 (.ofNat 0)),.nilsl,.nilsl,.nilfn,.nilsl,(.int .i64 (.ofNat 0))])),none,0⟩,
⟨(some 9),(.q (.mv (.c (.int .i64 (.ofNat 0))))),none,0⟩])
(.seq (.seq (.reg [⟨(some 17),(.q (.ld true 3 (.t 4))),none,0⟩,
⟨(some 18),(.q (.ld true 2 (.t 5))),none,0⟩,
⟨(some 19),(.q (.mv (.t 3))),none,0⟩,
⟨(some 20),(.x (.call (.c (.fn 95 [] [])) [(.t 17),(.t 18),(.t 19)])),none,0⟩,
⟨(some 10),(.q (.mv (.t 20))),none,0⟩])
(.seq (.reg [⟨(some 21),(.q (.mv (.t 10))),none,0⟩,
⟨(some 22),(.q (.bin .neq (.p .int) (.t 21) (.c (.int .i64 (.ofNat 0))))),none,0⟩])
(.cond (.t 22) (.seq (.reg [⟨(some 23),(.q (.build [(.int .i64 (.ofNat 0)),.nilsl,.nilsl,.nilfn,.nilsl,(.int .i64 (.ofNat 0))] [])),none,0⟩,
⟨(some 24),(.q (.mv (.t 10))),none,0⟩,
⟨none,(.x (.st 6 (.t 8) (.t 23))),none,0⟩,
⟨(some 9),(.q (.mv (.t 24))),none,0⟩])
.ret) .skip)))
(.seq (.seq (.reg [⟨(some 25),(.q (.mv (.t 2))),none,0⟩,
⟨(some 26),(.q (.lenSl (.t 25))),none,0⟩,
⟨(some 27),(.q (.faddr 1 (.t 4))),none,0⟩,
⟨(some 28),(.q (.ld false 1 (.t 27))),none,0⟩,
⟨(some 29),(.q (.lenSl (.t 28))),none,0⟩,
⟨(some 30),(.q (.bin .neq (.p .int) (.t 26) (.t 29))),none,0⟩])
(.cond (.t 30) (.seq (.reg [⟨(some 31),(.q (.build [(.int .i64 (.ofNat 0)),.nilsl,.nilsl,.nilfn,.nilsl,(.int .i64 (.ofNat 0))] [])),none,0⟩,
⟨none,(.x (.st 6 (.t 8) (.t 31))),none,0⟩,
⟨(some 9),(.q (.mv (.c (.int .i64 (.ofNat 10))))),none,0⟩])
.ret) .skip))
(.seq (.seq (.reg [⟨(some 32),(.q (.mv (.t 2))),none,0⟩,
⟨(some 33),(.q (.lenSl (.t 32))),none,0⟩,
⟨(some 34),(.q (.mv (.c (.int .i64 (.ofNat 0))))),none,0⟩])
(.block 0 (.loop (.seq (.reg [⟨(some 35),(.q (.bin .lss (.p .int) (.t 34) (.t 33))),none,0⟩])
(.seq (.cond (.t 35) .skip (.exit 0))
(.seq (.block 1 (.seq (.reg [⟨(some 36),(.q (.iaddr (.slice 3) (.t 32) (.t 34))),none,0⟩,
⟨(some 37),(.q (.ld true 3 (.t 36))),none,0⟩,
⟨(some 12),(.a (.alloc 43 [(.bool false),.nilsl,.nilsl])),none,0⟩,
⟨none,(.x (.st 3 (.t 12) (.t 37))),none,0⟩])
(.seq (.reg [⟨(some 38),(.q (.ld true 3 (.t 12))),none,0⟩,
⟨(some 39),(.x (.call (.c (.fn 83 [] [])) [(.t 38)])),none,0⟩,
⟨(some 13),(.q (.mv (.t 39))),none,0⟩])
(.seq (.reg [⟨(some 40),(.q (.mv (.t 13))),none,0⟩,
⟨(some 41),(.q (.bin .neq (.p .int) (.t 40) (.c (.int .i64 (.ofNat 0))))),none,0⟩])
(.cond (.t 41) (.seq (.reg [⟨(some 42),(.q (.build [(.int .i64 (.ofNat 0)),.nilsl,.nilsl,.nilfn,.nilsl,(.int .i64 (.ofNat 0))] [])),none,0⟩,
⟨(some 43),(.q (.mv (.t 13))),none,0⟩,
⟨none,(.x (.st 6 (.t 8) (.t 42))),none,0⟩,
⟨(some 9),(.q (.mv (.t 43))),none,0⟩])
.ret) .skip)))))
(.reg [⟨(some 44),(.q (.bin .add (.p .int) (.t 34) (.c (.int .i64 (.ofNat 1))))),none,0⟩,
⟨(some 34),(.q (.mv (.t 44))),none,0⟩])))))))
(.seq (.reg [⟨(some 45),(.q (.mv (.t 2))),none,0⟩,
⟨(some 46),(.q (.lenSl (.t 45))),none,0⟩,
⟨(some 47),(.a (.mkSlice 97 3 56 [(.bool false),.nilsl,.nilsl] (.t 46) (.t 46))),none,0⟩,
⟨(some 14),(.q (.mv (.t 47))),none,0⟩])
(.seq (.seq (.reg [⟨(some 48),(.q (.mv (.t 2))),none,0⟩,
⟨(some 49),(.q (.lenSl (.t 48))),none,0⟩,
⟨(some 50),(.q (.mv (.c (.int .i64 (.ofNat 0))))),none,0⟩])
(.block 2 (.loop (.seq (.reg [⟨(some 51),(.q (.bin .lss (.p .int) (.t 50) (.t 49))),none,0⟩])
(.seq (.cond (.t 51) .skip (.exit 2))
(.seq (.block 3 (.seq (.reg [⟨(some 52),(.q (.mv (.t 50))),none,0⟩,
⟨(some 53),(.q (.iaddr (.slice 3) (.t 48) (.t 50))),none,0⟩,
⟨(some 54),(.q (.ld true 3 (.t 53))),none,0⟩,
⟨(some 16),(.a (.alloc 43 [(.bool false),.nilsl,.nilsl])),none,0⟩,
⟨(some 15),(.q (.mv (.t 52))),none,0⟩,
⟨none,(.x (.st 3 (.t 16) (.t 54))),none,0⟩])
(.reg [⟨(some 55),(.q (.mv (.t 14))),none,0⟩,
⟨(some 56),(.q (.mv (.t 15))),none,0⟩,
⟨(some 57),(.q (.ld true 3 (.t 16))),none,0⟩,
⟨(some 58),(.x (.call (.c (.fn 96 [] [])) [(.t 57)])),none,0⟩,
⟨(some 59),(.q (.iaddr (.slice 3) (.t 55) (.t 56))),none,0⟩,
⟨none,(.x (.st 3 (.t 59) (.t 58))),none,0⟩])))
(.reg [⟨(some 60),(.q (.bin .add (.p .int) (.t 50) (.c (.int .i64 (.ofNat 1))))),none,0⟩,
⟨(some 50),(.q (.mv (.t 60))),none,0⟩])))))))
(.seq (.reg [⟨(some 61),(.q (.ld true 3 (.t 4))),none,0⟩,
⟨(some 62),(.q (.ld true 2 (.t 5))),none,0⟩,
⟨(some 63),(.x (.call (.c (.fn 97 [] [])) [(.t 61),(.t 62)])),none,0⟩,
⟨(some 64),(.q (.mv (.t 14))),none,0⟩,
⟨(some 65),(.q (.mv (.t 3))),none,0⟩,
⟨(some 66),(.q (.build [(.int .i64 (.ofNat 0)),.nilsl,.nilsl,.nilfn,.nilsl,(.int .i64 (.ofNat 0))] [(0,4,(.t 63)),(4,1,(.t 64)),(5,1,(.t 65))])),none,0⟩,
⟨none,(.x (.st 6 (.t 8) (.t 66))),none,0⟩,
⟨(some 9),(.q (.mv (.c (.int .i64 (.ofNat 0))))),none,0⟩])
.ret)))))))⟩
theorem row55 : Row Tryz.prog (55, a55) := ⟨Tryz.f55, Tryz.func55, by kernel_rfl⟩
noncomputable def a56 : AFn :=
⟨19,[(.cell 6 true 3)],(.seq (.reg [⟨(some 3),(.a (.box 92 (.t 0))),none,0⟩,
⟨(some 6),(.a (.alloc 97 [(.bool false),.nilsl,.nilsl])),none,0⟩])
(.seq (.reg [⟨(some 8),(.q (.ld true 6 (.t 3))),none,0⟩,
⟨(some 9),(.q (.mv (.t 1))),none,0⟩,
⟨(some 10),(.q (.mkFunc 99 [] [(.t 3)])),none,0⟩,
⟨(some 11),(.x (.call (.c (.fn 98 [] [])) [(.t 8),(.t 9),(.t 10)])),none,0⟩,
⟨(some 7),(.a (.alloc 97 [(.bool false),.nilsl,.nilsl])),none,0⟩,
⟨none,(.x (.st 3 (.t 7) (.t 11))),none,0⟩])
(.seq (.drw [⟨(some 12),(.q (.faddr 4 (.t 3))),none,0⟩,
⟨(some 13),(.q (.ld false 1 (.t 12))),none,1⟩,
⟨(some 14),(.q (.mv (.t 2))),none,0⟩,
⟨(some 15),(.q (.iaddr (.slice 3) (.t 13) (.t 14))),none,7⟩,
⟨(some 16),(.q (.ld true 3 (.t 15))),none,15⟩,
⟨(some 17),(.q (.ld true 3 (.t 7))),none,0⟩,
⟨(some 18),(.x (.call (.c (.fn 64 [] [])) [(.t 16),(.t 17)])),none,63⟩,
⟨none,(.x (.st 3 (.t 6) (.t 18))),none,127⟩])
.ret)))⟩
theorem row56 : Row Tryz.prog (56, a56) := ⟨Tryz.f56, Tryz.func56, by kernel_rfl⟩
noncomputable def a57 : AFn :=
⟨27,[(.cell 2 true 3),(.t 3)],(.seq (.reg [⟨(some 1),(.a (.box 97 (.t 0))),none,0⟩,
⟨(some 2),(.a (.alloc 43 [(.bool false),.nilsl,.nilsl])),none,0⟩,
⟨(some 3),(.q (.mv (.c (.int .i64 (.ofNat 0))))),none,0⟩])
(.seq (.reg [⟨(some 7),(.q (.ld true 3 (.t 1))),none,0⟩,
⟨(some 8),(.x (.call (.c (.fn 100 [] [])) [(.t 7)])),none,0⟩,
⟨(some 6),(.q (.mv (.t 8))),none,0⟩,
⟨(some 9),(.q (.extract (.t 6) 0)),none,0⟩,
⟨(some 10),(.q (.extract (.t 6) 1)),none,0⟩,
⟨(some 4),(.q (.mv (.t 9))),none,0⟩,
⟨(some 5),(.q (.mv (.t 10))),none,0⟩])
(.seq (.seq (.reg [⟨(some 11),(.q (.mv (.t 4))),none,0⟩,
⟨(some 12),(.q (.lenSl (.t 11))),none,0⟩,
⟨(some 13),(.q (.bin .gtr (.p .int) (.t 12) (.c (.int .i64 (.ofNat 1024))))),none,0⟩,
⟨(some 14),(.q (.mv (.t 13))),none,0⟩,
⟨(some 15),(.q (.mv (.t 5))),(some (14,false)),0⟩,
⟨(some 16),(.q (.lenSl (.t 15))),(some (14,false)),0⟩,
⟨(some 17),(.q (.bin .gtr (.p .int) (.t 16) (.c (.int .i64 (.ofNat 1024))))),(some (14,false)),0⟩,
⟨(some 18),(.q (.pick (.t 14) (.c (.bool true)) (.t 17))),none,0⟩])
(.cond (.t 18) (.seq (.reg [⟨(some 19),(.q (.build [(.bool false),.nilsl,.nilsl] [])),none,0⟩,
⟨none,(.x (.st 3 (.t 2) (.t 19))),none,0⟩,
⟨(some 3),(.q (.mv (.c (.int .i64 (.ofNat 5))))),none,0⟩])
.ret) .skip))
(.seq (.drw [⟨(some 20),(.q (.faddr 0 (.t 1))),none,0⟩,
⟨(some 21),(.q (.ld false 1 (.t 20))),none,1⟩,
⟨(some 22),(.q (.mv (.t 4))),none,0⟩,
⟨(some 23),(.x (.call (.c (.fn 101 [] [])) [(.t 22)])),none,4⟩,
⟨(some 24),(.q (.mv (.t 5))),none,0⟩,
⟨(some 25),(.x (.call (.c (.fn 101 [] [])) [(.t 24)])),none,28⟩,
⟨(some 26),(.q (.build [(.bool false),.nilsl,.nilsl] [(0,1,(.t 21)),(1,1,(.t 23)),(2,1,(.t 25))])),none,63⟩,
⟨none,(.x (.st 3 (.t 2) (.t 26))),none,127⟩,
⟨(some 3),(.q (.mv (.c (.int .i64 (.ofNat 0))))),none,255⟩])
.ret))))⟩
theorem row57 : Row Tryz.prog (57, a57) := ⟨Tryz.f57, Tryz.func57, by kernel_rfl⟩
noncomputable def a58 : AFn :=
⟨47,[(.t 2)],(.seq (.reg [⟨(some 1),(.a (.box 92 (.t 0))),none,0⟩,
⟨(some 2),(.q (.mv (.c .nilsl))),none,0⟩])
(.seq (.reg [⟨(some 6),(.q (.faddr 0 (.t 1))),none,0⟩,
⟨(some 7),(.q (.faddr 0 (.t 6))),none,0⟩,
⟨(some 8),(.q (.faddr 1 (.t 7))),none,0⟩,
⟨(some 9),(.q (.ld false 1 (.t 8))),none,0⟩,
⟨(some 10),(.q (.lenSl (.t 9))),none,0⟩,
⟨(some 11),(.a (.mkSlice 97 3 56 [(.bool false),.nilsl,.nilsl] (.t 10) (.t 10))),none,0⟩,
⟨(some 3),(.a (.alloc 90 [.nilsl])),none,0⟩,
⟨none,(.x (.st 1 (.t 3) (.t 11))),none,0⟩])
(.seq (.seq (.reg [⟨(some 12),(.q (.ld false 1 (.t 3))),none,0⟩,
⟨(some 13),(.q (.lenSl (.t 12))),none,0⟩,
⟨(some 14),(.q (.bin .sub (.p .int) (.t 13) (.c (.int .i64 (.ofNat 1))))),none,0⟩,
⟨(some 4),(.q (.mv (.t 14))),none,0⟩])
(.block 0 (.loop (.seq (.seq (.reg [⟨(some 15),(.q (.mv (.t 4))),none,0⟩,
⟨(some 16),(.q (.bin .geq (.p .int) (.t 15) (.c (.int .i64 (.ofNat 0))))),none,0⟩])
(.cond (.t 16) .skip (.exit 0)))
(.seq (.block 1 (.seq (.reg [⟨(some 19),(.q (.faddr 0 (.t 1))),none,0⟩,
⟨(some 20),(.q (.faddr 0 (.t 19))),none,0⟩,
⟨(some 21),(.q (.faddr 1 (.t 20))),none,0⟩,
⟨(some 22),(.q (.ld false 1 (.t 21))),none,0⟩,
⟨(some 23),(.q (.mv (.t 4))),none,0⟩,
⟨(some 24),(.q (.iaddr (.slice 6) (.t 22) (.t 23))),none,0⟩,
⟨(some 25),(.q (.ld true 6 (.t 24))),none,0⟩,
⟨(some 5),(.a (.alloc 75 [(.int .i64 (.ofNat 0)),(.int .i64 (.ofNat 0)),(.int .i64 (.ofNat 0)),.nilsl,.nilsl,.nilsl])),none,0⟩,
⟨none,(.x (.st 6 (.t 5) (.t 25))),none,0⟩])
(.seq (.reg [⟨(some 26),(.q (.faddr 0 (.t 5))),none,0⟩,
⟨(some 27),(.q (.ld false 1 (.t 26))),none,0⟩,
⟨(some 28),(.q (.bin .eql (.p .int) (.t 27) (.c (.int .i64 (.ofNat 3))))),none,0⟩])
(.cond (.t 28) (.drw [⟨(some 29),(.q (.ld false 1 (.t 3))),none,0⟩,
⟨(some 30),(.q (.mv (.t 4))),none,0⟩,
⟨(some 31),(.q (.faddr 5 (.t 5))),none,0⟩,
⟨(some 32),(.q (.ld false 1 (.t 31))),none,4⟩,
⟨(some 33),(.q (.faddr 5 (.t 1))),none,0⟩,
⟨(some 34),(.q (.ld false 1 (.t 33))),none,16⟩,
⟨(some 35),(.q (.iaddr (.slice 1) (.t 32) (.t 34))),none,60⟩,
⟨(some 36),(.q (.ld false 1 (.t 35))),none,124⟩,
⟨(some 37),(.x (.call (.c (.fn 63 [] [])) [(.t 36)])),none,252⟩,
⟨(some 38),(.q (.iaddr (.slice 3) (.t 29) (.t 30))),none,511⟩,
⟨none,(.x (.st 3 (.t 38) (.t 37))),none,1023⟩]) (.drw [⟨(some 39),(.q (.ld false 1 (.t 3))),none,0⟩,
⟨(some 40),(.q (.mv (.t 4))),none,0⟩,
⟨(some 41),(.q (.ld true 6 (.t 1))),none,0⟩,
⟨(some 42),(.q (.mv (.t 4))),none,0⟩,
⟨(some 43),(.q (.mkFunc 102 [] [(.t 3)])),none,0⟩,
⟨(some 44),(.x (.call (.c (.fn 98 [] [])) [(.t 41),(.t 42),(.t 43)])),none,28⟩,
⟨(some 45),(.q (.iaddr (.slice 3) (.t 39) (.t 40))),none,63⟩,
⟨none,(.x (.st 3 (.t 45) (.t 44))),none,127⟩])))))
(.reg [⟨(some 17),(.q (.mv (.t 4))),none,0⟩,
⟨(some 18),(.q (.bin .sub (.p .int) (.t 17) (.c (.int .i64 (.ofNat 1))))),none,0⟩,
⟨(some 4),(.q (.mv (.t 18))),none,0⟩]))))))
(.seq (.reg [⟨(some 46),(.q (.ld false 1 (.t 3))),none,0⟩,
⟨(some 2),(.q (.mv (.t 46))),none,0⟩])
.ret))))⟩
theorem row58 : Row Tryz.prog (58, a58) := ⟨Tryz.f58, Tryz.func58, by kernel_rfl⟩
noncomputable def a59 : AFn :=
⟨47,[(.cell 4 true 3)],(.seq (.reg [⟨(some 2),(.a (.box 92 (.t 0))),none,0⟩,
⟨(some 4),(.a (.alloc 97 [(.bool false),.nilsl,.nilsl])),none,0⟩])
(.seq (.reg [⟨(some 10),(.q (.ld true 6 (.t 2))),none,0⟩,
⟨(some 11),(.x (.call (.c (.fn 58 [] [])) [(.t 10)])),none,0⟩,
⟨(some 5),(.a (.alloc 90 [.nilsl])),none,0⟩,
⟨none,(.x (.st 1 (.t 5) (.t 11))),none,0⟩])
(.seq (.reg [⟨(some 12),(.q (.ld false 1 (.t 5))),none,0⟩,
⟨(some 13),(.q (.lenSl (.t 12))),none,0⟩,
⟨(some 14),(.a (.mkSlice 97 3 56 [(.bool false),.nilsl,.nilsl] (.t 13) (.t 13))),none,0⟩,
⟨(some 6),(.a (.alloc 90 [.nilsl])),none,0⟩,
⟨none,(.x (.st 1 (.t 6) (.t 14))),none,0⟩])
(.seq (.seq (.reg [⟨(some 15),(.q (.ld false 1 (.t 6))),none,0⟩,
⟨(some 16),(.q (.lenSl (.t 15))),none,0⟩,
⟨(some 17),(.q (.bin .sub (.p .int) (.t 16) (.c (.int .i64 (.ofNat 1))))),none,0⟩,
⟨(some 7),(.q (.mv (.t 17))),none,0⟩])
(.block 0 (.loop (.seq (.seq (.reg [⟨(some 18),(.q (.mv (.t 7))),none,0⟩,
⟨(some 19),(.q (.bin .geq (.p .int) (.t 18) (.c (.int .i64 (.ofNat 0))))),none,0⟩])
(.cond (.t 19) .skip (.exit 0)))
(.seq (.block 1 (.seq (.reg [⟨(some 22),(.q (.mkFunc 103 [] [(.t 5)])),none,0⟩,
⟨(some 8),(.a (.alloc 108 [.nilfn])),none,0⟩,
⟨none,(.x (.st 1 (.t 8) (.t 22))),none,0⟩])
(.seq (.seq (.reg [⟨(some 23),(.q (.mv (.t 1))),none,0⟩,
⟨(some 24),(.q (.faddr 0 (.t 2))),none,0⟩,
⟨(some 25),(.q (.faddr 0 (.t 24))),none,0⟩,
⟨(some 26),(.q (.faddr 1 (.t 25))),none,0⟩,
⟨(some 27),(.q (.ld false 1 (.t 26))),none,0⟩,
⟨(some 28),(.q (.mv (.t 7))),none,0⟩,
⟨(some 29),(.q (.iaddr (.slice 6) (.t 27) (.t 28))),none,0⟩,
⟨(some 30),(.q (.ld true 6 (.t 29))),none,0⟩,
⟨(some 31),(.x (.call (.c (.fn 61 [] [])) [(.t 23),(.t 30)])),none,0⟩])
(.cond (.t 31) (.reg [⟨(some 32),(.q (.mkFunc 104 [] [(.t 5),(.t 2)])),none,0⟩,
⟨none,(.x (.st 1 (.t 8) (.t 32))),none,0⟩]) .skip))
(.seq (.reg [⟨(some 33),(.q (.ld true 6 (.t 2))),none,0⟩,
⟨(some 34),(.q (.mv (.t 7))),none,0⟩,
⟨(some 35),(.q (.ld false 1 (.t 8))),none,0⟩,
⟨(some 36),(.x (.call (.c (.fn 98 [] [])) [(.t 33),(.t 34),(.t 35)])),none,0⟩,
⟨(some 9),(.a (.alloc 97 [(.bool false),.nilsl,.nilsl])),none,0⟩,
⟨none,(.x (.st 3 (.t 9) (.t 36))),none,0⟩])
(.drw [⟨(some 37),(.q (.ld false 1 (.t 6))),none,0⟩,
⟨(some 38),(.q (.mv (.t 7))),none,0⟩,
⟨(some 39),(.q (.ld true 6 (.t 2))),none,0⟩,
⟨(some 40),(.q (.mv (.t 7))),none,0⟩,
⟨(some 41),(.q (.mkFunc 105 [] [(.t 8),(.t 9),(.t 6)])),none,0⟩,
⟨(some 42),(.x (.call (.c (.fn 98 [] [])) [(.t 39),(.t 40),(.t 41)])),none,28⟩,
⟨(some 43),(.q (.iaddr (.slice 3) (.t 37) (.t 38))),none,63⟩,
⟨none,(.x (.st 3 (.t 43) (.t 42))),none,127⟩])))))
(.reg [⟨(some 20),(.q (.mv (.t 7))),none,0⟩,
⟨(some 21),(.q (.bin .sub (.p .int) (.t 20) (.c (.int .i64 (.ofNat 1))))),none,0⟩,
⟨(some 7),(.q (.mv (.t 21))),none,0⟩]))))))
(.seq (.reg [⟨(some 44),(.q (.ld false 1 (.t 6))),none,0⟩,
⟨(some 45),(.q (.iaddr (.slice 3) (.t 44) (.c (.int .i64 (.ofNat 0))))),none,0⟩,
⟨(some 46),(.q (.ld true 3 (.t 45))),none,0⟩,
⟨none,(.x (.st 3 (.t 4) (.t 46))),none,0⟩])
.ret)))))⟩
theorem row59 : Row Tryz.prog (59, a59) := ⟨Tryz.f59, Tryz.func59, by kernel_rfl⟩
noncomputable def a60 : AFn :=
⟨13,[(.t 4)],(.seq (.reg [⟨(some 4),(.q (.mv (.c (.int .i64 (.ofNat 0))))),none,0⟩])
(.seq (.reg [⟨(some 5),(.q (.mv (.c (.int .i64 (.ofNat 0))))),none,0⟩])
(.seq (.seq (.reg [⟨(some 6),(.q (.mv (.t 0))),none,0⟩])
(.cond (.t 6) (.reg [⟨(some 7),(.q (.mv (.t 5))),none,0⟩,
⟨(some 8),(.q (.bin .or (.p .int) (.t 7) (.c (.int .i64 (.ofNat 1))))),none,0⟩,
⟨(some 5),(.q (.mv (.t 8))),none,0⟩]) .skip))
(.seq (.seq (.reg [⟨(some 9),(.q (.mv (.t 1))),none,0⟩])
(.cond (.t 9) (.reg [⟨(some 10),(.q (.mv (.t 5))),none,0⟩,
⟨(some 11),(.q (.bin .or (.p .int) (.t 10) (.c (.int .i64 (.ofNat 2))))),none,0⟩,
⟨(some 5),(.q (.mv (.t 11))),none,0⟩]) .skip))
(.seq (.reg [⟨(some 12),(.q (.mv (.t 5))),none,0⟩,
⟨(some 4),(.q (.mv (.t 12))),none,0⟩])
.ret)))))⟩
theorem row60 : Row Tryz.prog (60, a60) := ⟨Tryz.f60, Tryz.func60, by kernel_rfl⟩
noncomputable def a61 : AFn :=
⟨17,[(.t 4)],(.seq (.reg [⟨(some 3),(.a (.box 75 (.t 1))),none,0⟩,
⟨(some 4),(.q (.mv (.c (.bool false)))),none,0⟩])
(.seq (.seq (.reg [⟨(some 5),(.q (.faddr 0 (.t 3))),none,0⟩,
⟨(some 6),(.q (.ld false 1 (.t 5))),none,0⟩])
(.block 0 (.seq (.reg [⟨(some 8),(.q (.bin .eql (.p .int) (.t 6) (.c (.int .i64 (.ofNat 1))))),none,0⟩,
⟨(some 7),(.q (.mv (.t 8))),none,0⟩])
(.cond (.t 7) (.seq (.reg [⟨(some 9),(.q (.mv (.t 0))),none,0⟩,
⟨(some 10),(.q (.bin .and (.p .int) (.t 9) (.c (.int .i64 (.ofNat 1))))),none,0⟩,
⟨(some 11),(.q (.bin .neq (.p .int) (.t 10) (.c (.int .i64 (.ofNat 0))))),none,0⟩,
⟨(some 4),(.q (.mv (.t 11))),none,0⟩])
.ret) (.seq (.reg [⟨(some 13),(.q (.bin .eql (.p .int) (.t 6) (.c (.int .i64 (.ofNat 2))))),none,0⟩,
⟨(some 12),(.q (.mv (.t 13))),none,0⟩])
(.cond (.t 12) (.seq (.reg [⟨(some 14),(.q (.mv (.t 0))),none,0⟩,
⟨(some 15),(.q (.bin .and (.p .int) (.t 14) (.c (.int .i64 (.ofNat 2))))),none,0⟩,
⟨(some 16),(.q (.bin .neq (.p .int) (.t 15) (.c (.int .i64 (.ofNat 0))))),none,0⟩,
⟨(some 4),(.q (.mv (.t 16))),none,0⟩])
.ret) .skip))))))
(.seq (.reg [⟨(some 4),(.q (.mv (.c (.bool false)))),none,0⟩])
.ret)))⟩
theorem row61 : Row Tryz.prog (61, a61) := ⟨Tryz.f61, Tryz.func61, by kernel_rfl⟩
noncomputable def a62 : AFn :=
⟨14,[],(.seq (.reg [⟨(some 3),(.a (.box 97 (.t 1))),none,0⟩])
(.drw [⟨(some 4),(.q (.mv (.t 0))),none,0⟩,
⟨(some 5),(.q (.mv (.t 0))),none,0⟩,
⟨(some 6),(.q (.nilchk (.t 5))),none,2⟩,
⟨(some 7),(.q (.faddr 0 (.t 6))),none,6⟩,
⟨(some 8),(.q (.ld true 3 (.t 7))),none,14⟩,
⟨(some 9),(.q (.mkIface 97 (.t 8))),none,30⟩,
⟨(some 10),(.q (.ld true 3 (.t 3))),none,0⟩,
⟨(some 11),(.x (.inv [(95,146,none),(97,106,none)] (.t 9) [(.t 10)])),none,126⟩,
⟨(some 12),(.q (.nilchk (.t 4))),none,255⟩,
⟨(some 13),(.q (.faddr 0 (.t 12))),none,511⟩,
⟨none,(.x (.st 3 (.t 13) (.t 11))),none,1023⟩]))⟩
theorem row62 : Row Tryz.prog (62, a62) := ⟨Tryz.f62, Tryz.func62, by kernel_rfl⟩
noncomputable def a63 : AFn :=
⟨5,[(.cell 2 true 3)],(.seq (.reg [⟨(some 2),(.a (.alloc 97 [(.bool false),.nilsl,.nilsl])),none,0⟩])
(.seq (.reg [⟨(some 3),(.q (.mv (.t 0))),none,0⟩,
⟨(some 4),(.x (.call (.c (.fn 108 [] [])) [(.t 3),(.c (.int .i64 (.ofNat 1)))])),none,0⟩,
⟨none,(.x (.st 3 (.t 2) (.t 4))),none,0⟩])
.ret))⟩
theorem row63 : Row Tryz.prog (63, a63) := ⟨Tryz.f63, Tryz.func63, by kernel_rfl⟩
noncomputable def a64 : AFn :=
⟨18,[(.cell 4 true 3)],(.seq (.reg [⟨(some 2),(.a (.box 97 (.t 0))),none,0⟩,
⟨(some 3),(.a (.box 97 (.t 1))),none,0⟩,
⟨(some 4),(.a (.alloc 97 [(.bool false),.nilsl,.nilsl])),none,0⟩])
(.seq (.reg [⟨(some 5),(.q (.faddr 0 (.t 3))),none,0⟩,
⟨(some 6),(.q (.ld false 1 (.t 5))),none,0⟩,
⟨(some 7),(.q (.un .not (.t 6))),none,0⟩,
⟨(some 8),(.q (.mv (.t 7))),none,0⟩,
⟨(some 9),(.q (.faddr 1 (.t 3))),(some (8,true)),0⟩,
⟨(some 10),(.q (.ld false 1 (.t 9))),(some (8,true)),0⟩,
⟨(some 11),(.q (.lenSl (.t 10))),(some (8,true)),0⟩,
⟨(some 12),(.q (.bin .gtr (.p .int) (.t 11) (.c (.int .i64 (.ofNat 0))))),(some (8,true)),0⟩,
⟨(some 13),(.q (.pick (.t 8) (.t 12) (.c (.bool false)))),none,0⟩,
⟨(some 14),(.q (.faddr 0 (.t 3))),none,0⟩,
⟨none,(.x (.st 1 (.t 14) (.t 13))),none,0⟩])
(.seq (.reg [⟨(some 15),(.q (.ld true 3 (.t 2))),none,0⟩,
⟨(some 16),(.q (.ld true 3 (.t 3))),none,0⟩,
⟨(some 17),(.x (.call (.c (.fn 106 [] [])) [(.t 15),(.t 16)])),none,0⟩,
⟨none,(.x (.st 3 (.t 4) (.t 17))),none,0⟩])
.ret)))⟩
theorem row64 : Row Tryz.prog (64, a64) := ⟨Tryz.f64, Tryz.func64, by kernel_rfl⟩
noncomputable def a65 : AFn :=
⟨53,[(.t 6),(.t 7)],(.seq (.reg [⟨(some 3),(.a (.box 31 (.t 0))),none,0⟩,
⟨(some 4),(.a (.box 52 (.t 1))),none,0⟩,
⟨(some 6),(.q (.mv (.c .nilsl))),none,0⟩,
⟨(some 7),(.q (.mv (.c (.int .i64 (.ofNat 0))))),none,0⟩])
(.seq (.seq (.reg [⟨(some 15),(.q (.ld true 3 (.t 3))),none,0⟩,
⟨(some 16),(.q (.ld true 2 (.t 4))),none,0⟩,
⟨(some 17),(.q (.mv (.t 2))),none,0⟩,
⟨(some 18),(.x (.call (.c (.fn 95 [] [])) [(.t 15),(.t 16),(.t 17)])),none,0⟩,
⟨(some 8),(.q (.mv (.t 18))),none,0⟩])
(.seq (.reg [⟨(some 19),(.q (.mv (.t 8))),none,0⟩,
⟨(some 20),(.q (.bin .neq (.p .int) (.t 19) (.c (.int .i64 (.ofNat 0))))),none,0⟩])
(.cond (.t 20) (.seq (.reg [⟨(some 21),(.q (.mv (.t 8))),none,0⟩,
⟨(some 6),(.q (.mv (.c .nilsl))),none,0⟩,
⟨(some 7),(.q (.mv (.t 21))),none,0⟩])
.ret) .skip)))
(.seq (.reg [⟨(some 22),(.q (.ld true 3 (.t 3))),none,0⟩,
⟨(some 23),(.q (.ld true 2 (.t 4))),none,0⟩,
⟨(some 24),(.x (.call (.c (.fn 97 [] [])) [(.t 22),(.t 23)])),none,0⟩,
⟨(some 25),(.q (.mv (.t 2))),none,0⟩,
⟨(some 26),(.q (.build [(.int .i64 (.ofNat 0)),.nilsl,.nilsl,.nilfn,.nilsl,(.int .i64 (.ofNat 0))] [(0,4,(.t 24)),(5,1,(.t 25))])),none,0⟩,
⟨(some 9),(.a (.alloc 92 [(.int .i64 (.ofNat 0)),.nilsl,.nilsl,.nilfn,.nilsl,(.int .i64 (.ofNat 0))])),none,0⟩,
⟨none,(.x (.st 6 (.t 9) (.t 26))),none,0⟩])
(.seq (.reg [⟨(some 27),(.q (.faddr 1 (.t 3))),none,0⟩,
⟨(some 28),(.q (.ld false 1 (.t 27))),none,0⟩,
⟨(some 29),(.q (.lenSl (.t 28))),none,0⟩,
⟨(some 30),(.a (.mkSlice 43 3 56 [(.bool false),.nilsl,.nilsl] (.t 29) (.t 29))),none,0⟩,
⟨(some 10),(.q (.mv (.t 30))),none,0⟩])
(.seq (.seq (.reg [⟨(some 31),(.q (.ld true 6 (.t 9))),none,0⟩,
⟨(some 32),(.x (.call (.c (.fn 58 [] [])) [(.t 31)])),none,0⟩,
⟨(some 33),(.q (.lenSl (.t 32))),none,0⟩,
⟨(some 34),(.q (.mv (.c (.int .i64 (.ofNat 0))))),none,0⟩])
(.block 0 (.loop (.seq (.reg [⟨(some 35),(.q (.bin .lss (.p .int) (.t 34) (.t 33))),none,0⟩])
(.seq (.cond (.t 35) .skip (.exit 0))
(.seq (.block 1 (.seq (.reg [⟨(some 36),(.q (.mv (.t 34))),none,0⟩,
⟨(some 37),(.q (.iaddr (.slice 3) (.t 32) (.t 34))),none,0⟩,
⟨(some 38),(.q (.ld true 3 (.t 37))),none,0⟩,
⟨(some 12),(.a (.alloc 97 [(.bool false),.nilsl,.nilsl])),none,0⟩,
⟨(some 11),(.q (.mv (.t 36))),none,0⟩,
⟨none,(.x (.st 3 (.t 12) (.t 38))),none,0⟩])
(.seq (.reg [⟨(some 40),(.q (.ld true 3 (.t 12))),none,0⟩,
⟨(some 41),(.x (.call (.c (.fn 57 [] [])) [(.t 40)])),none,0⟩,
⟨(some 39),(.q (.mv (.t 41))),none,0⟩,
⟨(some 42),(.q (.extract (.t 39) 0)),none,0⟩,
⟨(some 43),(.q (.extract (.t 39) 1)),none,0⟩,
⟨(some 13),(.a (.alloc 43 [(.bool false),.nilsl,.nilsl])),none,0⟩,
⟨none,(.x (.st 3 (.t 13) (.t 42))),none,0⟩,
⟨(some 14),(.q (.mv (.t 43))),none,0⟩])
(.seq (.seq (.reg [⟨(some 44),(.q (.mv (.t 14))),none,0⟩,
⟨(some 45),(.q (.bin .neq (.p .int) (.t 44) (.c (.int .i64 (.ofNat 0))))),none,0⟩])
(.cond (.t 45) (.seq (.reg [⟨(some 46),(.q (.mv (.t 14))),none,0⟩,
⟨(some 6),(.q (.mv (.c .nilsl))),none,0⟩,
⟨(some 7),(.q (.mv (.t 46))),none,0⟩])
.ret) .skip))
(.reg [⟨(some 47),(.q (.mv (.t 10))),none,0⟩,
⟨(some 48),(.q (.mv (.t 11))),none,0⟩,
⟨(some 49),(.q (.ld true 3 (.t 13))),none,0⟩,
⟨(some 50),(.q (.iaddr (.slice 3) (.t 47) (.t 48))),none,0⟩,
⟨none,(.x (.st 3 (.t 50) (.t 49))),none,0⟩])))))
(.reg [⟨(some 51),(.q (.bin .add (.p .int) (.t 34) (.c (.int .i64 (.ofNat 1))))),none,0⟩,
⟨(some 34),(.q (.mv (.t 51))),none,0⟩])))))))
(.seq (.reg [⟨(some 52),(.q (.mv (.t 10))),none,0⟩,
⟨(some 6),(.q (.mv (.t 52))),none,0⟩,
⟨(some 7),(.q (.mv (.c (.int .i64 (.ofNat 0))))),none,0⟩])
.ret))))))⟩
theorem row65 : Row Tryz.prog (65, a65) := ⟨Tryz.f65, Tryz.func65, by kernel_rfl⟩
noncomputable def a69 : AFn :=
⟨11,[(.t 2)],(.seq (.reg [⟨(some 1),(.a (.box 31 (.t 0))),none,0⟩,
⟨(some 2),(.q (.mv (.c (.int .i64 (.ofNat 0))))),none,0⟩])
(.seq (.reg [⟨(some 6),(.q (.ld true 3 (.t 1))),none,0⟩,
⟨(some 7),(.x (.call (.c (.fn 110 [] [])) [(.t 6)])),none,0⟩,
⟨(some 5),(.q (.mv (.t 7))),none,0⟩,
⟨(some 8),(.q (.extract (.t 5) 0)),none,0⟩,
⟨(some 9),(.q (.extract (.t 5) 1)),none,0⟩,
⟨(some 3),(.q (.mv (.t 8))),none,0⟩,
⟨(some 4),(.q (.mv (.t 9))),none,0⟩])
(.seq (.reg [⟨(some 10),(.q (.mv (.t 4))),none,0⟩,
⟨(some 2),(.q (.mv (.t 10))),none,0⟩])
.ret)))⟩
theorem row69 : Row Tryz.prog (69, a69) := ⟨Tryz.f69, Tryz.func69, by kernel_rfl⟩
noncomputable def a83 : AFn :=
⟨28,[(.t 2)],(.seq (.reg [⟨(some 1),(.a (.box 43 (.t 0))),none,0⟩,
⟨(some 2),(.q (.mv (.c (.int .i64 (.ofNat 0))))),none,0⟩])
(.seq (.seq (.reg [⟨(some 4),(.q (.faddr 1 (.t 1))),none,0⟩,
⟨(some 5),(.q (.ld false 1 (.t 4))),none,0⟩,
⟨(some 6),(.q (.faddr 2 (.t 1))),none,0⟩,
⟨(some 7),(.q (.ld false 1 (.t 6))),none,0⟩,
⟨(some 8),(.x (.call (.c (.fn 125 [] [])) [(.t 5),(.t 7)])),none,0⟩,
⟨(some 3),(.q (.mv (.t 8))),none,0⟩])
(.seq (.reg [⟨(some 9),(.q (.mv (.t 3))),none,0⟩,
⟨(some 10),(.q (.bin .neq (.p .int) (.t 9) (.c (.int .i64 (.ofNat 0))))),none,0⟩])
(.cond (.t 10) (.seq (.reg [⟨(some 11),(.q (.mv (.t 3))),none,0⟩,
⟨(some 2),(.q (.mv (.t 11))),none,0⟩])
.ret) .skip)))
(.seq (.seq (.reg [⟨(some 12),(.q (.faddr 1 (.t 1))),none,0⟩,
⟨(some 13),(.q (.ld false 1 (.t 12))),none,0⟩,
⟨(some 14),(.q (.lenSl (.t 13))),none,0⟩,
⟨(some 15),(.q (.bin .eql (.p .int) (.t 14) (.c (.int .i64 (.ofNat 0))))),none,0⟩,
⟨(some 16),(.q (.mv (.t 15))),none,0⟩,
⟨(some 17),(.q (.faddr 0 (.t 1))),(some (16,true)),0⟩,
⟨(some 18),(.q (.ld false 1 (.t 17))),(some (16,true)),0⟩,
⟨(some 19),(.q (.pick (.t 16) (.t 18) (.c (.bool false)))),none,0⟩,
⟨(some 20),(.q (.mv (.t 19))),none,0⟩,
⟨(some 21),(.q (.faddr 1 (.t 1))),(some (20,false)),0⟩,
⟨(some 22),(.q (.ld false 1 (.t 21))),(some (20,false)),0⟩,
⟨(some 23),(.q (.faddr 2 (.t 1))),(some (20,false)),0⟩,
⟨(some 24),(.q (.ld false 1 (.t 23))),(some (20,false)),0⟩,
⟨(some 25),(.x (.call (.c (.fn 126 [] [])) [(.t 22),(.t 24)])),(some (20,false)),0⟩,
⟨(some 26),(.q (.un .not (.t 25))),(some (20,false)),0⟩,
⟨(some 27),(.q (.pick (.t 20) (.c (.bool true)) (.t 26))),none,0⟩])
(.cond (.t 27) (.seq (.reg [⟨(some 2),(.q (.mv (.c (.int .i64 (.ofNat 3))))),none,0⟩])
.ret) .skip))
(.seq (.reg [⟨(some 2),(.q (.mv (.c (.int .i64 (.ofNat 0))))),none,0⟩])
.ret))))⟩
theorem row83 : Row Tryz.prog (83, a83) := ⟨Tryz.f83, Tryz.func83, by kernel_rfl⟩
noncomputable def a85 : AFn :=
⟨8,[(.t 6)],(.seq (.reg [⟨(some 3),(.a (.box 31 (.t 0))),none,0⟩,
⟨(some 4),(.a (.box 137 (.t 1))),none,0⟩,
⟨(some 5),(.a (.box 3 (.t 2))),none,0⟩,
⟨(some 6),(.q (.mv (.c .nilfn))),none,0⟩])
(.seq (.reg [⟨(some 7),(.q (.mkFunc 128 [] [(.t 5),(.t 3),(.t 4)])),none,0⟩,
⟨(some 6),(.q (.mv (.t 7))),none,0⟩])
.ret))⟩
theorem row85 : Row Tryz.prog (85, a85) := ⟨Tryz.f85, Tryz.func85, by kernel_rfl⟩
noncomputable def a86 : AFn :=
⟨20,[(.t 4)],(.seq (.reg [⟨(some 2),(.a (.box 142 (.t 0))),none,0⟩,
⟨(some 3),(.a (.box 75 (.t 1))),none,0⟩,
⟨(some 4),(.q (.mv (.c (.int .i64 (.ofNat 0))))),none,0⟩])
(.seq (.reg [⟨(some 5),(.q (.mv (.c (.int .i64 (.ofNat 0))))),none,0⟩])
(.seq (.seq (.reg [⟨(some 8),(.q (.faddr 4 (.t 3))),none,0⟩,
⟨(some 9),(.q (.ld false 1 (.t 8))),none,0⟩,
⟨(some 10),(.q (.lenSl (.t 9))),none,0⟩,
⟨(some 11),(.q (.mv (.c (.int .i64 (.ofNat 0))))),none,0⟩])
(.block 0 (.loop (.seq (.reg [⟨(some 12),(.q (.bin .lss (.p .int) (.t 11) (.t 10))),none,0⟩])
(.seq (.cond (.t 12) .skip (.exit 0))
(.seq (.block 1 (.seq (.reg [⟨(some 13),(.q (.iaddr (.slice 1) (.t 9) (.t 11))),none,0⟩,
⟨(some 14),(.q (.ld false 1 (.t 13))),none,0⟩,
⟨(some 7),(.q (.mv (.t 14))),none,0⟩])
(.reg [⟨(some 15),(.q (.mv (.t 5))),none,0⟩,
⟨(some 16),(.q (.mv (.t 7))),none,0⟩,
⟨(some 17),(.q (.bin .add (.p .int) (.t 15) (.t 16))),none,0⟩,
⟨(some 5),(.q (.mv (.t 17))),none,0⟩])))
(.reg [⟨(some 18),(.q (.bin .add (.p .int) (.t 11) (.c (.int .i64 (.ofNat 1))))),none,0⟩,
⟨(some 11),(.q (.mv (.t 18))),none,0⟩])))))))
(.seq (.reg [⟨(some 19),(.q (.mv (.t 5))),none,0⟩,
⟨(some 4),(.q (.mv (.t 19))),none,0⟩])
.ret))))⟩
theorem row86 : Row Tryz.prog (86, a86) := ⟨Tryz.f86, Tryz.func86, by kernel_rfl⟩
noncomputable def a92 : AFn :=
⟨26,[(.t 4)],(.seq (.reg [⟨(some 4),(.q (.mv (.c (.bool false)))),none,0⟩])
(.seq (.seq (.reg [⟨(some 6),(.q (.mv (.t 0))),none,0⟩,
⟨(some 7),(.q (.lenSl (.t 6))),none,0⟩,
⟨(some 8),(.q (.mv (.t 1))),none,0⟩,
⟨(some 9),(.q (.lenSl (.t 8))),none,0⟩,
⟨(some 10),(.q (.bin .neq (.p .int) (.t 7) (.t 9))),none,0⟩])
(.cond (.t 10) (.seq (.reg [⟨(some 4),(.q (.mv (.c (.bool false)))),none,0⟩])
.ret) .skip))
(.seq (.seq (.reg [⟨(some 5),(.q (.mv (.c (.int .i64 (.ofNat 0))))),none,0⟩])
(.block 0 (.loop (.seq (.seq (.reg [⟨(some 11),(.q (.mv (.t 5))),none,0⟩,
⟨(some 12),(.q (.mv (.t 0))),none,0⟩,
⟨(some 13),(.q (.lenSl (.t 12))),none,0⟩,
⟨(some 14),(.q (.bin .lss (.p .int) (.t 11) (.t 13))),none,0⟩])
(.cond (.t 14) .skip (.exit 0)))
(.seq (.block 1 (.seq (.drw [⟨(some 17),(.q (.mv (.t 0))),none,0⟩,
⟨(some 18),(.q (.mv (.t 5))),none,0⟩,
⟨(some 19),(.q (.iaddr (.slice 1) (.t 17) (.t 18))),none,3⟩,
⟨(some 20),(.q (.ld false 1 (.t 19))),none,7⟩,
⟨(some 21),(.q (.mv (.t 1))),none,0⟩,
⟨(some 22),(.q (.mv (.t 5))),none,0⟩,
⟨(some 23),(.q (.iaddr (.slice 1) (.t 21) (.t 22))),none,48⟩,
⟨(some 24),(.q (.ld false 1 (.t 23))),none,112⟩,
⟨(some 25),(.q (.bin .neq (.p .int) (.t 20) (.t 24))),none,255⟩])
(.cond (.t 25) (.seq (.reg [⟨(some 4),(.q (.mv (.c (.bool false)))),none,0⟩])
.ret) .skip)))
(.reg [⟨(some 15),(.q (.mv (.t 5))),none,0⟩,
⟨(some 16),(.q (.bin .add (.p .int) (.t 15) (.c (.int .i64 (.ofNat 1))))),none,0⟩,
⟨(some 5),(.q (.mv (.t 16))),none,0⟩]))))))
(.seq (.reg [⟨(some 4),(.q (.mv (.c (.bool true)))),none,0⟩])
.ret))))⟩
theorem row92 : Row Tryz.prog (92, a92) := ⟨Tryz.f92, Tryz.func92, by kernel_rfl⟩
noncomputable def a93 : AFn :=
⟨44,[(.t 4)],(.seq (.reg [⟨(some 2),(.a (.box 31 (.t 0))),none,0⟩,
⟨(some 3),(.a (.box 52 (.t 1))),none,0⟩,
⟨(some 4),(.q (.mv (.c (.int .i64 (.ofNat 0))))),none,0⟩])
(.seq (.seq (.reg [⟨(some 9),(.q (.ld true 3 (.t 2))),none,0⟩,
⟨(some 10),(.x (.call (.c (.fn 69 [] [])) [(.t 9)])),none,0⟩,
⟨(some 5),(.q (.mv (.t 10))),none,0⟩])
(.seq (.reg [⟨(some 11),(.q (.mv (.t 5))),none,0⟩,
⟨(some 12),(.q (.bin .neq (.p .int) (.t 11) (.c (.int .i64 (.ofNat 0))))),none,0⟩])
(.cond (.t 12) (.seq (.reg [⟨(some 13),(.q (.mv (.t 5))),none,0⟩,
⟨(some 4),(.q (.mv (.t 13))),none,0⟩])
.ret) .skip)))
(.seq (.seq (.reg [⟨(some 14),(.q (.ld true 2 (.t 3))),none,0⟩,
⟨(some 15),(.x (.call (.c (.fn 136 [] [])) [(.t 14)])),none,0⟩,
⟨(some 6),(.q (.mv (.t 15))),none,0⟩])
(.seq (.reg [⟨(some 16),(.q (.mv (.t 6))),none,0⟩,
⟨(some 17),(.q (.bin .neq (.p .int) (.t 16) (.c (.int .i64 (.ofNat 0))))),none,0⟩])
(.cond (.t 17) (.seq (.reg [⟨(some 18),(.q (.mv (.t 6))),none,0⟩,
⟨(some 4),(.q (.mv (.t 18))),none,0⟩])
.ret) .skip)))
(.seq (.seq (.reg [⟨(some 19),(.q (.faddr 1 (.t 3))),none,0⟩,
⟨(some 20),(.q (.ld false 1 (.t 19))),none,0⟩,
⟨(some 21),(.q (.lenSl (.t 20))),none,0⟩,
⟨(some 22),(.q (.faddr 2 (.t 2))),none,0⟩,
⟨(some 23),(.q (.ld false 1 (.t 22))),none,0⟩,
⟨(some 24),(.q (.lenSl (.t 23))),none,0⟩,
⟨(some 25),(.q (.bin .neq (.p .int) (.t 21) (.t 24))),none,0⟩])
(.cond (.t 25) (.seq (.reg [⟨(some 4),(.q (.mv (.c (.int .i64 (.ofNat 10))))),none,0⟩])
.ret) .skip))
(.seq (.seq (.reg [⟨(some 26),(.q (.faddr 1 (.t 3))),none,0⟩,
⟨(some 27),(.q (.ld false 1 (.t 26))),none,0⟩,
⟨(some 28),(.q (.lenSl (.t 27))),none,0⟩,
⟨(some 29),(.q (.mv (.c (.int .i64 (.ofNat 0))))),none,0⟩])
(.block 0 (.loop (.seq (.reg [⟨(some 30),(.q (.bin .lss (.p .int) (.t 29) (.t 28))),none,0⟩])
(.seq (.cond (.t 30) .skip (.exit 0))
(.seq (.block 1 (.seq (.reg [⟨(some 31),(.q (.mv (.t 29))),none,0⟩,
⟨(some 32),(.q (.iaddr (.slice 1) (.t 27) (.t 29))),none,0⟩,
⟨(some 33),(.q (.ld false 1 (.t 32))),none,0⟩,
⟨(some 7),(.q (.mv (.t 31))),none,0⟩,
⟨(some 8),(.q (.mv (.t 33))),none,0⟩])
(.seq (.reg [⟨(some 34),(.q (.mv (.t 8))),none,0⟩,
⟨(some 35),(.q (.lenSl (.t 34))),none,0⟩,
⟨(some 36),(.q (.faddr 2 (.t 2))),none,0⟩,
⟨(some 37),(.q (.ld false 1 (.t 36))),none,0⟩,
⟨(some 38),(.q (.mv (.t 7))),none,0⟩,
⟨(some 39),(.q (.iaddr (.slice 2) (.t 37) (.t 38))),none,0⟩,
⟨(some 40),(.q (.faddr 1 (.t 39))),none,0⟩,
⟨(some 41),(.q (.ld false 1 (.t 40))),none,0⟩,
⟨(some 42),(.q (.bin .neq (.p .int) (.t 35) (.t 41))),none,0⟩])
(.cond (.t 42) (.seq (.reg [⟨(some 4),(.q (.mv (.c (.int .i64 (.ofNat 10))))),none,0⟩])
.ret) .skip))))
(.reg [⟨(some 43),(.q (.bin .add (.p .int) (.t 29) (.c (.int .i64 (.ofNat 1))))),none,0⟩,
⟨(some 29),(.q (.mv (.t 43))),none,0⟩])))))))
(.seq (.reg [⟨(some 4),(.q (.mv (.c (.int .i64 (.ofNat 0))))),none,0⟩])
.ret))))))⟩
theorem row93 : Row Tryz.prog (93, a93) := ⟨Tryz.f93, Tryz.func93, by kernel_rfl⟩
noncomputable def a94 : AFn :=
⟨83,[(.t 4),(.t 5)],(.seq (.reg [⟨(some 2),(.a (.box 31 (.t 0))),none,0⟩,
⟨(some 4),(.q (.mv (.c (.int .i64 (.ofNat 0))))),none,0⟩,
⟨(some 5),(.q (.mv (.c (.int .i64 (.ofNat 0))))),none,0⟩])
(.seq (.reg [⟨(some 14),(.q (.faddr 1 (.t 2))),none,0⟩,
⟨(some 15),(.q (.ld false 1 (.t 14))),none,0⟩,
⟨(some 16),(.q (.lenSl (.t 15))),none,0⟩,
⟨(some 17),(.a (.mkSlice 3 1 8 [(.int .i64 (.ofNat 0))] (.t 16) (.t 16))),none,0⟩,
⟨(some 6),(.q (.mv (.t 17))),none,0⟩])
(.seq (.reg [⟨(some 18),(.q (.mv (.t 6))),none,0⟩,
⟨(some 19),(.q (.iaddr (.slice 1) (.t 18) (.c (.int .i64 (.ofNat 0))))),none,0⟩,
⟨none,(.x (.st 1 (.t 19) (.c (.int .i64 (.ofNat 1))))),none,0⟩])
(.seq (.reg [⟨(some 7),(.q (.mv (.c (.int .i64 (.ofNat 1))))),none,0⟩])
(.seq (.seq (.reg [⟨(some 20),(.q (.faddr 1 (.t 2))),none,0⟩,
⟨(some 21),(.q (.ld false 1 (.t 20))),none,0⟩,
⟨(some 22),(.q (.lenSl (.t 21))),none,0⟩,
⟨(some 23),(.q (.mv (.c (.int .i64 (.ofNat 0))))),none,0⟩])
(.block 0 (.loop (.seq (.reg [⟨(some 24),(.q (.bin .lss (.p .int) (.t 23) (.t 22))),none,0⟩])
(.seq (.cond (.t 24) .skip (.exit 0))
(.seq (.block 1 (.seq (.reg [⟨(some 25),(.q (.mv (.t 23))),none,0⟩,
⟨(some 26),(.q (.iaddr (.slice 6) (.t 21) (.t 23))),none,0⟩,
⟨(some 27),(.q (.ld true 6 (.t 26))),none,0⟩,
⟨(some 9),(.a (.alloc 75 [(.int .i64 (.ofNat 0)),(.int .i64 (.ofNat 0)),(.int .i64 (.ofNat 0)),.nilsl,.nilsl,.nilsl])),none,0⟩,
⟨(some 8),(.q (.mv (.t 25))),none,0⟩,
⟨none,(.x (.st 6 (.t 9) (.t 27))),none,0⟩])
(.seq (.seq (.reg [⟨(some 28),(.q (.faddr 0 (.t 9))),none,0⟩,
⟨(some 29),(.q (.ld false 1 (.t 28))),none,0⟩,
⟨(some 30),(.q (.bin .eql (.p .int) (.t 29) (.c (.int .i64 (.ofNat 3))))),none,0⟩])
(.cond (.t 30) (.seq (.reg [⟨(some 31),(.q (.mv (.t 7))),none,0⟩,
⟨(some 32),(.q (.mv (.t 7))),none,0⟩,
⟨(some 33),(.q (.mv (.t 6))),none,0⟩,
⟨(some 34),(.q (.mv (.t 8))),none,0⟩,
⟨(some 35),(.q (.iaddr (.slice 1) (.t 33) (.t 34))),none,0⟩,
⟨(some 36),(.q (.ld false 1 (.t 35))),none,0⟩,
⟨(some 37),(.x (.call (.c (.fn 137 [] [])) [(.t 32),(.t 36)])),none,0⟩,
⟨(some 38),(.q (.bin .quo (.p .int) (.t 31) (.t 37))),none,0⟩,
⟨(some 10),(.q (.mv (.t 38))),none,0⟩])
(.seq (.seq (.reg [⟨(some 39),(.q (.mv (.t 10))),none,0⟩,
⟨(some 40),(.q (.mv (.t 6))),none,0⟩,
⟨(some 41),(.q (.mv (.t 8))),none,0⟩,
⟨(some 42),(.q (.iaddr (.slice 1) (.t 40) (.t 41))),none,0⟩,
⟨(some 43),(.q (.ld false 1 (.t 42))),none,0⟩,
⟨(some 44),(.q (.bin .quo (.p .int) (.c (.int .i64 (.ofNat 1000000000000000))) (.t 43))),none,0⟩,
⟨(some 45),(.q (.bin .gtr (.p .int) (.t 39) (.t 44))),none,0⟩])
(.cond (.t 45) (.seq (.reg [⟨(some 4),(.q (.mv (.c (.int .i64 (.ofNat 0))))),none,0⟩,
⟨(some 5),(.q (.mv (.c (.int .i64 (.ofNat 5))))),none,0⟩])
.ret) .skip))
(.seq (.reg [⟨(some 46),(.q (.mv (.t 10))),none,0⟩,
⟨(some 47),(.q (.mv (.t 6))),none,0⟩,
⟨(some 48),(.q (.mv (.t 8))),none,0⟩,
⟨(some 49),(.q (.iaddr (.slice 1) (.t 47) (.t 48))),none,0⟩,
⟨(some 50),(.q (.ld false 1 (.t 49))),none,0⟩,
⟨(some 51),(.q (.bin .mul (.p .int) (.t 46) (.t 50))),none,0⟩,
⟨(some 7),(.q (.mv (.t 51))),none,0⟩])
(.exit 1)))) .skip))
(.seq (.drw [⟨(some 52),(.q (.ld true 6 (.t 9))),none,0⟩,
⟨(some 53),(.q (.mv (.t 1))),none,0⟩,
⟨(some 54),(.x (.call (.c (.fn 129 [] [])) [(.t 52),(.t 53)])),none,3⟩,
⟨(some 55),(.q (.ld true 6 (.t 9))),none,0⟩,
⟨(some 56),(.x (.inv [(73,289,none),(134,293,none),(142,86,none)] (.t 54) [(.t 55)])),none,15⟩,
⟨(some 11),(.q (.mv (.t 56))),none,31⟩])
(.seq (.seq (.reg [⟨(some 57),(.q (.mv (.t 11))),none,0⟩,
⟨(some 58),(.q (.mv (.t 6))),none,0⟩,
⟨(some 59),(.q (.mv (.t 8))),none,0⟩,
⟨(some 60),(.q (.iaddr (.slice 1) (.t 58) (.t 59))),none,0⟩,
⟨(some 61),(.q (.ld false 1 (.t 60))),none,0⟩,
⟨(some 62),(.q (.bin .quo (.p .int) (.c (.int .i64 (.ofNat 1000000000000000))) (.t 61))),none,0⟩,
⟨(some 63),(.q (.bin .gtr (.p .int) (.t 57) (.t 62))),none,0⟩])
(.cond (.t 63) (.seq (.reg [⟨(some 4),(.q (.mv (.c (.int .i64 (.ofNat 0))))),none,0⟩,
⟨(some 5),(.q (.mv (.c (.int .i64 (.ofNat 5))))),none,0⟩])
.ret) .skip))
(.seq (.reg [⟨(some 64),(.q (.faddr 3 (.t 9))),none,0⟩,
⟨(some 65),(.q (.ld false 1 (.t 64))),none,0⟩,
⟨(some 66),(.q (.lenSl (.t 65))),none,0⟩,
⟨(some 67),(.q (.mv (.c (.int .i64 (.ofNat 0))))),none,0⟩])
(.block 2 (.loop (.seq (.reg [⟨(some 68),(.q (.bin .lss (.p .int) (.t 67) (.t 66))),none,0⟩])
(.seq (.cond (.t 68) .skip (.exit 2))
(.seq (.block 3 (.seq (.reg [⟨(some 69),(.q (.iaddr (.slice 1) (.t 65) (.t 67))),none,0⟩,
⟨(some 70),(.q (.ld false 1 (.t 69))),none,0⟩,
⟨(some 13),(.q (.mv (.t 70))),none,0⟩])
(.reg [⟨(some 71),(.q (.mv (.t 6))),none,0⟩,
⟨(some 72),(.q (.mv (.t 13))),none,0⟩,
⟨(some 73),(.q (.mv (.t 6))),none,0⟩,
⟨(some 74),(.q (.mv (.t 8))),none,0⟩,
⟨(some 75),(.q (.iaddr (.slice 1) (.t 73) (.t 74))),none,0⟩,
⟨(some 76),(.q (.ld false 1 (.t 75))),none,0⟩,
⟨(some 77),(.q (.mv (.t 11))),none,0⟩,
⟨(some 78),(.q (.bin .mul (.p .int) (.t 76) (.t 77))),none,0⟩,
⟨(some 79),(.q (.iaddr (.slice 1) (.t 71) (.t 72))),none,0⟩,
⟨none,(.x (.st 1 (.t 79) (.t 78))),none,0⟩])))
(.reg [⟨(some 80),(.q (.bin .add (.p .int) (.t 67) (.c (.int .i64 (.ofNat 1))))),none,0⟩,
⟨(some 67),(.q (.mv (.t 80))),none,0⟩]))))))))))))
(.reg [⟨(some 81),(.q (.bin .add (.p .int) (.t 23) (.c (.int .i64 (.ofNat 1))))),none,0⟩,
⟨(some 23),(.q (.mv (.t 81))),none,0⟩])))))))
(.seq (.reg [⟨(some 82),(.q (.mv (.t 7))),none,0⟩,
⟨(some 4),(.q (.mv (.t 82))),none,0⟩,
⟨(some 5),(.q (.mv (.c (.int .i64 (.ofNat 0))))),none,0⟩])
.ret))))))⟩
theorem row94 : Row Tryz.prog (94, a94) := ⟨Tryz.f94, Tryz.func94, by kernel_rfl⟩
end Go.Proofs.YtopemogpgppjlaaGreatDoor.reduceKnown
