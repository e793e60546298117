/- The functions that RatKnown reaches, as data of the evaluator (part 1), written by program; each is shown to be the compiler's result on the loaded function. -/
import Derived.Test.YtopemogpgppjlaaDoorProg
import Derived.Test.YtopemogpgppjlaaDoorEv7
import Derived.KernelRfl
namespace Go.Proofs.YtopemogpgppjlaaDoor.ratKnown
open Go.Ev
set_option maxRecDepth 100000
noncomputable def a47 : AFn :=
⟨41,[(.t 2),(.t 3)],(.seq (.reg [⟨(some 2),(.q (.mv (.c (.int .u64 (.ofNat 0))))),none,0⟩,
⟨(some 3),(.q (.mv (.c (.bool false)))),none,0⟩])
(.seq (.seq (.reg [⟨(some 10),(.q (.mv (.t 0))),none,0⟩,
⟨(some 11),(.q (.lenSl (.t 10))),none,0⟩,
⟨(some 12),(.q (.bin .gtr (.p .int) (.t 11) (.c (.int .i64 (.ofNat 3))))),none,0⟩])
(.cond (.t 12) (.seq (.reg [⟨(some 2),(.q (.mv (.c (.int .u64 (.ofNat 0))))),none,0⟩,
⟨(some 3),(.q (.mv (.c (.bool false)))),none,0⟩])
.ret) .skip))
(.seq (.reg [⟨(some 4),(.q (.mv (.c (.int .u64 (.ofNat 0))))),none,0⟩])
(.seq (.seq (.reg [⟨(some 13),(.q (.mv (.t 0))),none,0⟩,
⟨(some 14),(.q (.lenSl (.t 13))),none,0⟩,
⟨(some 15),(.q (.bin .sub (.p .int) (.t 14) (.c (.int .i64 (.ofNat 1))))),none,0⟩,
⟨(some 5),(.q (.mv (.t 15))),none,0⟩])
(.block 0 (.loop (.seq (.seq (.reg [⟨(some 16),(.q (.mv (.t 5))),none,0⟩,
⟨(some 17),(.q (.bin .geq (.p .int) (.t 16) (.c (.int .i64 (.ofNat 0))))),none,0⟩])
(.cond (.t 17) .skip (.exit 0)))
(.seq (.block 1 (.seq (.reg [⟨(some 21),(.q (.mv (.t 4))),none,0⟩,
⟨(some 22),(.x (.call (.c (.fn 97 [] [])) [(.t 21),(.c (.int .u64 (.ofNat 1000000000)))])),none,0⟩,
⟨(some 20),(.q (.mv (.t 22))),none,0⟩,
⟨(some 23),(.q (.extract (.t 20) 0)),none,0⟩,
⟨(some 24),(.q (.extract (.t 20) 1)),none,0⟩,
⟨(some 6),(.q (.mv (.t 23))),none,0⟩,
⟨(some 7),(.q (.mv (.t 24))),none,0⟩])
(.seq (.reg [⟨(some 26),(.q (.mv (.t 7))),none,0⟩,
⟨(some 27),(.q (.mv (.t 0))),none,0⟩,
⟨(some 28),(.q (.mv (.t 5))),none,0⟩,
⟨(some 29),(.q (.iaddr (.slice 1) (.t 27) (.t 28))),none,0⟩,
⟨(some 30),(.q (.ld false 1 (.t 29))),none,0⟩,
⟨(some 31),(.q (.conv (.int .u64) (.t 30))),none,0⟩,
⟨(some 32),(.x (.ext .add64 [(.t 26),(.t 31),(.c (.int .u64 (.ofNat 0)))])),none,0⟩,
⟨(some 25),(.q (.mv (.t 32))),none,0⟩,
⟨(some 33),(.q (.extract (.t 25) 0)),none,0⟩,
⟨(some 34),(.q (.extract (.t 25) 1)),none,0⟩,
⟨(some 8),(.q (.mv (.t 33))),none,0⟩,
⟨(some 9),(.q (.mv (.t 34))),none,0⟩])
(.seq (.seq (.reg [⟨(some 35),(.q (.mv (.t 6))),none,0⟩,
⟨(some 36),(.q (.mv (.t 9))),none,0⟩,
⟨(some 37),(.q (.bin .add (.p .int) (.t 35) (.t 36))),none,0⟩,
⟨(some 38),(.q (.bin .gtr (.p .int) (.t 37) (.c (.int .u64 (.ofNat 0))))),none,0⟩])
(.cond (.t 38) (.seq (.reg [⟨(some 2),(.q (.mv (.c (.int .u64 (.ofNat 0))))),none,0⟩,
⟨(some 3),(.q (.mv (.c (.bool false)))),none,0⟩])
.ret) .skip))
(.reg [⟨(some 39),(.q (.mv (.t 8))),none,0⟩,
⟨(some 4),(.q (.mv (.t 39))),none,0⟩])))))
(.reg [⟨(some 18),(.q (.mv (.t 5))),none,0⟩,
⟨(some 19),(.q (.bin .sub (.p .int) (.t 18) (.c (.int .i64 (.ofNat 1))))),none,0⟩,
⟨(some 5),(.q (.mv (.t 19))),none,0⟩]))))))
(.seq (.reg [⟨(some 40),(.q (.mv (.t 4))),none,0⟩,
⟨(some 2),(.q (.mv (.t 40))),none,0⟩,
⟨(some 3),(.q (.mv (.c (.bool true)))),none,0⟩])
.ret)))))⟩
theorem row47 : Row Tryd.prog (47, a47) := ⟨Tryd.f47, Tryd.func47, by kernel_rfl⟩
noncomputable def a48 : AFn :=
⟨12,[(.cell 2 true 3)],(.seq (.reg [⟨(some 1),(.a (.box 25 (.t 0))),none,0⟩,
⟨(some 2),(.a (.alloc 25 [(.bool false),.nilsl,.nilsl])),none,0⟩])
(.seq (.drw [⟨(some 3),(.q (.faddr 0 (.t 1))),none,0⟩,
⟨(some 4),(.q (.ld false 1 (.t 3))),none,1⟩,
⟨(some 5),(.q (.faddr 1 (.t 1))),none,0⟩,
⟨(some 6),(.q (.ld false 1 (.t 5))),none,4⟩,
⟨(some 7),(.x (.call (.c (.fn 80 [] [])) [(.t 6)])),none,12⟩,
⟨(some 8),(.q (.faddr 2 (.t 1))),none,0⟩,
⟨(some 9),(.q (.ld false 1 (.t 8))),none,32⟩,
⟨(some 10),(.x (.call (.c (.fn 80 [] [])) [(.t 9)])),none,124⟩,
⟨(some 11),(.q (.build [(.bool false),.nilsl,.nilsl] [(0,1,(.t 4)),(1,1,(.t 7)),(2,1,(.t 10))])),none,255⟩,
⟨none,(.x (.st 3 (.t 2) (.t 11))),none,511⟩])
.ret))⟩
theorem row48 : Row Tryd.prog (48, a48) := ⟨Tryd.f48, Tryd.func48, by kernel_rfl⟩
noncomputable def a49 : AFn :=
⟨68,[(.cell 2 true 3)],(.seq (.reg [⟨(some 1),(.a (.box 74 (.t 0))),none,0⟩,
⟨(some 2),(.a (.alloc 25 [(.bool false),.nilsl,.nilsl])),none,0⟩])
(.seq (.reg [⟨(some 9),(.q (.faddr 0 (.t 1))),none,0⟩,
⟨(some 10),(.q (.faddr 1 (.t 9))),none,0⟩,
⟨(some 11),(.q (.ld false 1 (.t 10))),none,0⟩,
⟨(some 12),(.q (.faddr 0 (.t 1))),none,0⟩,
⟨(some 13),(.q (.faddr 2 (.t 12))),none,0⟩,
⟨(some 14),(.q (.ld false 1 (.t 13))),none,0⟩,
⟨(some 15),(.x (.call (.c (.fn 95 [] [])) [(.t 11),(.t 14)])),none,0⟩,
⟨(some 8),(.q (.mv (.t 15))),none,0⟩,
⟨(some 16),(.q (.extract (.t 8) 0)),none,0⟩,
⟨(some 17),(.q (.extract (.t 8) 1)),none,0⟩,
⟨(some 3),(.q (.mv (.t 16))),none,0⟩,
⟨(some 4),(.q (.mv (.t 17))),none,0⟩])
(.seq (.reg [⟨(some 18),(.q (.mv (.t 3))),none,0⟩,
⟨(some 5),(.q (.mv (.t 18))),none,0⟩])
(.seq (.seq (.reg [⟨(some 19),(.q (.mv (.t 4))),none,0⟩,
⟨(some 20),(.q (.lenSl (.t 19))),none,0⟩,
⟨(some 21),(.q (.bin .gtr (.p .int) (.t 20) (.c (.int .i64 (.ofNat 0))))),none,0⟩])
(.cond (.t 21) (.reg [⟨(some 22),(.q (.mv (.t 3))),none,0⟩,
⟨(some 23),(.x (.call (.c (.fn 37 [] [])) [])),none,0⟩,
⟨(some 24),(.x (.call (.c (.fn 96 [] [])) [(.t 22),(.t 23)])),none,0⟩,
⟨(some 5),(.q (.mv (.t 24))),none,0⟩]) .skip))
(.seq (.seq (.drw [⟨(some 25),(.q (.mv (.t 5))),none,0⟩,
⟨(some 26),(.q (.faddr 3 (.t 1))),none,0⟩,
⟨(some 27),(.q (.faddr 2 (.t 26))),none,2⟩,
⟨(some 28),(.q (.ld false 1 (.t 27))),none,6⟩,
⟨(some 29),(.x (.call (.c (.fn 44 [] [])) [(.t 25),(.t 28)])),none,15⟩,
⟨(some 30),(.q (.faddr 3 (.t 1))),none,0⟩,
⟨(some 31),(.q (.faddr 1 (.t 30))),none,32⟩,
⟨(some 32),(.q (.ld false 1 (.t 31))),none,96⟩,
⟨(some 33),(.x (.call (.c (.fn 43 [] [])) [(.t 29),(.t 32)])),none,255⟩,
⟨(some 34),(.q (.bin .leq (.p .int) (.t 33) (.c (.int .i64 (.ofNat 0))))),none,511⟩])
(.cond (.t 34) (.seq (.reg [⟨(some 35),(.q (.mv (.t 5))),none,0⟩,
⟨(some 36),(.x (.call (.c (.fn 36 [] [])) [(.c (.bool false)),(.t 35)])),none,0⟩,
⟨none,(.x (.st 3 (.t 2) (.t 36))),none,0⟩])
.ret) .skip))
(.seq (.drw [⟨(some 37),(.q (.faddr 3 (.t 1))),none,0⟩,
⟨(some 38),(.q (.faddr 1 (.t 37))),none,1⟩,
⟨(some 39),(.q (.ld false 1 (.t 38))),none,3⟩,
⟨(some 40),(.q (.mv (.t 3))),none,0⟩,
⟨(some 41),(.q (.faddr 3 (.t 1))),none,0⟩,
⟨(some 42),(.q (.faddr 2 (.t 41))),none,16⟩,
⟨(some 43),(.q (.ld false 1 (.t 42))),none,48⟩,
⟨(some 44),(.x (.call (.c (.fn 44 [] [])) [(.t 40),(.t 43)])),none,120⟩,
⟨(some 45),(.x (.call (.c (.fn 99 [] [])) [(.t 39),(.t 44)])),none,255⟩,
⟨(some 6),(.q (.mv (.t 45))),none,511⟩])
(.seq (.reg [⟨(some 46),(.q (.faddr 3 (.t 1))),none,0⟩,
⟨(some 47),(.q (.faddr 2 (.t 46))),none,0⟩,
⟨(some 48),(.q (.ld false 1 (.t 47))),none,0⟩,
⟨(some 49),(.q (.mv (.t 6))),none,0⟩,
⟨(some 50),(.q (.build [(.bool false),.nilsl,.nilsl] [(1,1,(.t 48)),(2,1,(.t 49))])),none,0⟩,
⟨(some 51),(.q (.faddr 0 (.t 1))),none,0⟩,
⟨(some 52),(.q (.faddr 2 (.t 51))),none,0⟩,
⟨(some 53),(.q (.ld false 1 (.t 52))),none,0⟩,
⟨(some 54),(.q (.mv (.t 4))),none,0⟩,
⟨(some 55),(.q (.build [(.bool false),.nilsl,.nilsl] [(1,1,(.t 53)),(2,1,(.t 54))])),none,0⟩,
⟨(some 56),(.q (.build [(.bool false),.nilsl,.nilsl,(.bool false),.nilsl,.nilsl] [(0,3,(.t 50)),(3,3,(.t 55))])),none,0⟩,
⟨(some 57),(.x (.call (.c (.fn 49 [] [])) [(.t 56)])),none,0⟩,
⟨(some 7),(.a (.alloc 25 [(.bool false),.nilsl,.nilsl])),none,0⟩,
⟨none,(.x (.st 3 (.t 7) (.t 57))),none,0⟩])
(.seq (.drw [⟨(some 58),(.q (.mv (.t 3))),none,0⟩,
⟨(some 59),(.q (.faddr 1 (.t 7))),none,0⟩,
⟨(some 60),(.q (.ld false 1 (.t 59))),none,2⟩,
⟨(some 61),(.x (.call (.c (.fn 44 [] [])) [(.t 58),(.t 60)])),none,7⟩,
⟨(some 62),(.q (.faddr 2 (.t 7))),none,0⟩,
⟨(some 63),(.q (.ld false 1 (.t 62))),none,16⟩,
⟨(some 64),(.x (.call (.c (.fn 96 [] [])) [(.t 61),(.t 63)])),none,63⟩,
⟨(some 65),(.q (.faddr 1 (.t 7))),none,0⟩,
⟨(some 66),(.q (.ld false 1 (.t 65))),none,128⟩,
⟨(some 67),(.q (.build [(.bool false),.nilsl,.nilsl] [(1,1,(.t 64)),(2,1,(.t 66))])),none,511⟩,
⟨none,(.x (.st 3 (.t 2) (.t 67))),none,1023⟩])
.ret))))))))⟩
theorem row49 : Row Tryd.prog (49, a49) := ⟨Tryd.f49, Tryd.func49, by kernel_rfl⟩
noncomputable def a50 : AFn :=
⟨3,[(.cell 0 true 3)],(.seq (.reg [⟨(some 0),(.a (.alloc 25 [(.bool false),.nilsl,.nilsl])),none,0⟩])
(.seq (.reg [⟨(some 1),(.x (.call (.c (.fn 37 [] [])) [])),none,0⟩,
⟨(some 2),(.q (.build [(.bool false),.nilsl,.nilsl] [(2,1,(.t 1))])),none,0⟩,
⟨none,(.x (.st 3 (.t 0) (.t 2))),none,0⟩])
.ret))⟩
theorem row50 : Row Tryd.prog (50, a50) := ⟨Tryd.f50, Tryd.func50, by kernel_rfl⟩
noncomputable def a51 : AFn :=
⟨23,[(.t 4)],(.seq (.reg [⟨(some 4),(.q (.mv (.c (.bool false)))),none,0⟩])
(.seq (.seq (.reg [⟨(some 5),(.q (.mv (.t 0))),none,0⟩,
⟨(some 6),(.q (.lenSl (.t 5))),none,0⟩,
⟨(some 7),(.q (.bin .leq (.p .int) (.t 6) (.c (.int .i64 (.ofNat 2))))),none,0⟩,
⟨(some 8),(.q (.mv (.t 7))),none,0⟩,
⟨(some 9),(.q (.mv (.t 1))),(some (8,true)),0⟩,
⟨(some 10),(.q (.lenSl (.t 9))),(some (8,true)),0⟩,
⟨(some 11),(.q (.bin .leq (.p .int) (.t 10) (.c (.int .i64 (.ofNat 2))))),(some (8,true)),0⟩,
⟨(some 12),(.q (.pick (.t 8) (.t 11) (.c (.bool false)))),none,0⟩])
(.cond (.t 12) (.seq (.reg [⟨(some 13),(.q (.mv (.t 0))),none,0⟩,
⟨(some 14),(.x (.call (.c (.fn 78 [] [])) [(.t 13)])),none,0⟩,
⟨(some 15),(.q (.mv (.t 1))),none,0⟩,
⟨(some 16),(.x (.call (.c (.fn 78 [] [])) [(.t 15)])),none,0⟩,
⟨(some 17),(.x (.call (.c (.fn 100 [] [])) [(.t 14),(.t 16)])),none,0⟩,
⟨(some 18),(.q (.bin .eql (.p .int) (.t 17) (.c (.int .u64 (.ofNat 1))))),none,0⟩,
⟨(some 4),(.q (.mv (.t 18))),none,0⟩])
.ret) .skip))
(.seq (.reg [⟨(some 19),(.q (.mv (.t 0))),none,0⟩,
⟨(some 20),(.q (.mv (.t 1))),none,0⟩,
⟨(some 21),(.x (.call (.c (.fn 79 [] [])) [(.t 19),(.t 20)])),none,0⟩,
⟨(some 22),(.x (.call (.c (.fn 85 [] [])) [(.t 21)])),none,0⟩,
⟨(some 4),(.q (.mv (.t 22))),none,0⟩])
.ret)))⟩
theorem row51 : Row Tryd.prog (51, a51) := ⟨Tryd.f51, Tryd.func51, by kernel_rfl⟩
noncomputable def a52 : AFn :=
⟨87,[(.cell 2 true 3),(.cell 3 true 2)],(.seq (.reg [⟨(some 2),(.a (.alloc 25 [(.bool false),.nilsl,.nilsl])),none,0⟩,
⟨(some 3),(.a (.alloc 78 [(.int .i64 (.ofNat 0)),(.int .i64 (.ofNat 0))])),none,0⟩])
(.seq (.seq (.reg [⟨(some 13),(.q (.mv (.t 0))),none,0⟩,
⟨(some 14),(.q (.lenStr (.t 13))),none,0⟩,
⟨(some 15),(.q (.bin .gtr (.p .int) (.t 14) (.c (.int .i64 (.ofNat 20000))))),none,0⟩])
(.cond (.t 15) (.seq (.reg [⟨(some 16),(.q (.build [(.bool false),.nilsl,.nilsl] [])),none,0⟩,
⟨(some 17),(.q (.build [(.int .i64 (.ofNat 0)),(.int .i64 (.ofNat 0))] [(0,1,(.c (.int .i64 (.ofNat 4)))),(1,1,(.c (.int .i64 (.ofNat 20000))))])),none,0⟩,
⟨none,(.x (.st 3 (.t 2) (.t 16))),none,0⟩,
⟨none,(.x (.st 2 (.t 3) (.t 17))),none,0⟩])
.ret) .skip))
(.seq (.seq (.reg [⟨(some 18),(.q (.mv (.t 0))),none,0⟩,
⟨(some 19),(.x (.call (.c (.fn 101 [] [])) [(.t 18)])),none,0⟩,
⟨(some 4),(.a (.alloc 78 [(.int .i64 (.ofNat 0)),(.int .i64 (.ofNat 0))])),none,0⟩,
⟨none,(.x (.st 2 (.t 4) (.t 19))),none,0⟩])
(.seq (.reg [⟨(some 20),(.q (.faddr 0 (.t 4))),none,0⟩,
⟨(some 21),(.q (.ld false 1 (.t 20))),none,0⟩,
⟨(some 22),(.q (.bin .neq (.p .int) (.t 21) (.c (.int .i64 (.ofNat 0))))),none,0⟩])
(.cond (.t 22) (.seq (.drw [⟨(some 23),(.q (.build [(.bool false),.nilsl,.nilsl] [])),none,0⟩,
⟨(some 24),(.q (.ld true 2 (.t 4))),none,0⟩,
⟨none,(.x (.st 3 (.t 2) (.t 23))),none,1⟩,
⟨none,(.x (.st 2 (.t 3) (.t 24))),none,7⟩])
.ret) .skip)))
(.seq (.reg [⟨(some 26),(.q (.mv (.t 0))),none,0⟩,
⟨(some 27),(.x (.call (.c (.fn 102 [] [])) [(.t 26),(.c (.str [47]))])),none,0⟩,
⟨(some 25),(.q (.mv (.t 27))),none,0⟩,
⟨(some 28),(.q (.extract (.t 25) 0)),none,0⟩,
⟨(some 29),(.q (.extract (.t 25) 1)),none,0⟩,
⟨(some 30),(.q (.extract (.t 25) 2)),none,0⟩,
⟨(some 5),(.q (.mv (.t 28))),none,0⟩,
⟨(some 6),(.q (.mv (.t 29))),none,0⟩,
⟨(some 7),(.q (.mv (.t 30))),none,0⟩])
(.seq (.reg [⟨(some 32),(.q (.mv (.t 5))),none,0⟩,
⟨(some 33),(.x (.call (.c (.fn 103 [] [])) [(.t 32),(.c (.str [45]))])),none,0⟩,
⟨(some 31),(.q (.mv (.t 33))),none,0⟩,
⟨(some 34),(.q (.extract (.t 31) 0)),none,0⟩,
⟨(some 35),(.q (.extract (.t 31) 1)),none,0⟩,
⟨(some 8),(.q (.mv (.t 34))),none,0⟩,
⟨(some 9),(.q (.mv (.t 35))),none,0⟩])
(.seq (.reg [⟨(some 37),(.q (.mv (.t 8))),none,0⟩,
⟨(some 38),(.x (.call (.c (.fn 104 [] [])) [(.t 37)])),none,0⟩,
⟨(some 36),(.q (.mv (.t 38))),none,0⟩,
⟨(some 39),(.q (.extract (.t 36) 0)),none,0⟩,
⟨(some 40),(.q (.extract (.t 36) 1)),none,0⟩,
⟨(some 11),(.a (.alloc 78 [(.int .i64 (.ofNat 0)),(.int .i64 (.ofNat 0))])),none,0⟩,
⟨(some 10),(.q (.mv (.t 39))),none,0⟩,
⟨none,(.x (.st 2 (.t 11) (.t 40))),none,0⟩])
(.seq (.seq (.reg [⟨(some 41),(.q (.faddr 0 (.t 11))),none,0⟩,
⟨(some 42),(.q (.ld false 1 (.t 41))),none,0⟩,
⟨(some 43),(.q (.bin .neq (.p .int) (.t 42) (.c (.int .i64 (.ofNat 0))))),none,0⟩])
(.cond (.t 43) (.seq (.reg [⟨(some 44),(.q (.faddr 1 (.t 11))),none,0⟩,
⟨(some 45),(.q (.ld false 1 (.t 44))),none,0⟩,
⟨(some 46),(.q (.mv (.t 5))),none,0⟩,
⟨(some 47),(.q (.lenStr (.t 46))),none,0⟩,
⟨(some 48),(.q (.mv (.t 8))),none,0⟩,
⟨(some 49),(.q (.lenStr (.t 48))),none,0⟩,
⟨(some 50),(.q (.bin .sub (.p .int) (.t 47) (.t 49))),none,0⟩,
⟨(some 51),(.q (.bin .add (.p .int) (.t 45) (.t 50))),none,0⟩,
⟨(some 52),(.q (.faddr 1 (.t 11))),none,0⟩,
⟨none,(.x (.st 1 (.t 52) (.t 51))),none,0⟩])
(.seq (.drw [⟨(some 53),(.q (.build [(.bool false),.nilsl,.nilsl] [])),none,0⟩,
⟨(some 54),(.q (.ld true 2 (.t 11))),none,0⟩,
⟨none,(.x (.st 3 (.t 2) (.t 53))),none,1⟩,
⟨none,(.x (.st 2 (.t 3) (.t 54))),none,7⟩])
.ret)) .skip))
(.seq (.reg [⟨(some 55),(.x (.call (.c (.fn 37 [] [])) [])),none,0⟩,
⟨(some 12),(.q (.mv (.t 55))),none,0⟩])
(.seq (.seq (.reg [⟨(some 56),(.q (.mv (.t 7))),none,0⟩])
(.cond (.t 56) (.seq (.reg [⟨(some 58),(.q (.mv (.t 6))),none,0⟩,
⟨(some 59),(.x (.call (.c (.fn 104 [] [])) [(.t 58)])),none,0⟩,
⟨(some 57),(.q (.mv (.t 59))),none,0⟩,
⟨(some 60),(.q (.extract (.t 57) 0)),none,0⟩,
⟨(some 61),(.q (.extract (.t 57) 1)),none,0⟩,
⟨(some 12),(.q (.mv (.t 60))),none,0⟩,
⟨none,(.x (.st 2 (.t 11) (.t 61))),none,0⟩])
(.seq (.reg [⟨(some 62),(.q (.faddr 0 (.t 11))),none,0⟩,
⟨(some 63),(.q (.ld false 1 (.t 62))),none,0⟩,
⟨(some 64),(.q (.bin .neq (.p .int) (.t 63) (.c (.int .i64 (.ofNat 0))))),none,0⟩])
(.cond (.t 64) (.seq (.reg [⟨(some 65),(.q (.faddr 1 (.t 11))),none,0⟩,
⟨(some 66),(.q (.ld false 1 (.t 65))),none,0⟩,
⟨(some 67),(.q (.mv (.t 5))),none,0⟩,
⟨(some 68),(.q (.lenStr (.t 67))),none,0⟩,
⟨(some 69),(.q (.bin .add (.p .int) (.t 68) (.c (.int .i64 (.ofNat 1))))),none,0⟩,
⟨(some 70),(.q (.bin .add (.p .int) (.t 66) (.t 69))),none,0⟩,
⟨(some 71),(.q (.faddr 1 (.t 11))),none,0⟩,
⟨none,(.x (.st 1 (.t 71) (.t 70))),none,0⟩])
(.seq (.drw [⟨(some 72),(.q (.build [(.bool false),.nilsl,.nilsl] [])),none,0⟩,
⟨(some 73),(.q (.ld true 2 (.t 11))),none,0⟩,
⟨none,(.x (.st 3 (.t 2) (.t 72))),none,1⟩,
⟨none,(.x (.st 2 (.t 3) (.t 73))),none,7⟩])
.ret)) .skip))) .skip))
(.seq (.seq (.reg [⟨(some 74),(.q (.mv (.t 12))),none,0⟩,
⟨(some 75),(.q (.lenSl (.t 74))),none,0⟩,
⟨(some 76),(.q (.bin .eql (.p .int) (.t 75) (.c (.int .i64 (.ofNat 0))))),none,0⟩])
(.cond (.t 76) (.seq (.reg [⟨(some 77),(.q (.build [(.bool false),.nilsl,.nilsl] [])),none,0⟩,
⟨(some 78),(.q (.mv (.t 5))),none,0⟩,
⟨(some 79),(.q (.lenStr (.t 78))),none,0⟩,
⟨(some 80),(.q (.bin .add (.p .int) (.t 79) (.c (.int .i64 (.ofNat 1))))),none,0⟩,
⟨(some 81),(.q (.build [(.int .i64 (.ofNat 0)),(.int .i64 (.ofNat 0))] [(0,1,(.c (.int .i64 (.ofNat 6)))),(1,1,(.t 80))])),none,0⟩,
⟨none,(.x (.st 3 (.t 2) (.t 77))),none,0⟩,
⟨none,(.x (.st 2 (.t 3) (.t 81))),none,0⟩])
.ret) .skip))
(.seq (.reg [⟨(some 82),(.q (.mv (.t 9))),none,0⟩,
⟨(some 83),(.q (.mv (.t 10))),none,0⟩,
⟨(some 84),(.q (.mv (.t 12))),none,0⟩,
⟨(some 85),(.x (.call (.c (.fn 30 [] [])) [(.t 82),(.t 83),(.t 84)])),none,0⟩,
⟨(some 86),(.q (.build [(.int .i64 (.ofNat 0)),(.int .i64 (.ofNat 0))] [])),none,0⟩,
⟨none,(.x (.st 3 (.t 2) (.t 85))),none,0⟩,
⟨none,(.x (.st 2 (.t 3) (.t 86))),none,0⟩])
.ret)))))))))))⟩
theorem row52 : Row Tryd.prog (52, a52) := ⟨Tryd.f52, Tryd.func52, by kernel_rfl⟩
noncomputable def a53 : AFn :=
⟨27,[(.cell 4 true 3),(.t 5)],(.seq (.reg [⟨(some 2),(.a (.box 25 (.t 0))),none,0⟩,
⟨(some 3),(.a (.box 25 (.t 1))),none,0⟩,
⟨(some 4),(.a (.alloc 25 [(.bool false),.nilsl,.nilsl])),none,0⟩,
⟨(some 5),(.q (.mv (.c (.int .i64 (.ofNat 0))))),none,0⟩])
(.seq (.seq (.reg [⟨(some 8),(.q (.ld true 3 (.t 2))),none,0⟩,
⟨(some 9),(.q (.ld true 3 (.t 3))),none,0⟩,
⟨(some 10),(.x (.call (.c (.fn 35 [] [])) [(.t 8),(.t 9)])),none,0⟩,
⟨(some 6),(.q (.mv (.t 10))),none,0⟩])
(.seq (.reg [⟨(some 11),(.q (.mv (.t 6))),none,0⟩,
⟨(some 12),(.q (.bin .neq (.p .int) (.t 11) (.c (.int .i64 (.ofNat 0))))),none,0⟩])
(.cond (.t 12) (.seq (.reg [⟨(some 13),(.q (.build [(.bool false),.nilsl,.nilsl] [])),none,0⟩,
⟨(some 14),(.q (.mv (.t 6))),none,0⟩,
⟨none,(.x (.st 3 (.t 4) (.t 13))),none,0⟩,
⟨(some 5),(.q (.mv (.t 14))),none,0⟩])
.ret) .skip)))
(.seq (.reg [⟨(some 15),(.x (.call (.c (.fn 37 [] [])) [])),none,0⟩,
⟨(some 16),(.x (.call (.c (.fn 36 [] [])) [(.c (.bool false)),(.t 15)])),none,0⟩,
⟨(some 7),(.a (.alloc 25 [(.bool false),.nilsl,.nilsl])),none,0⟩,
⟨none,(.x (.st 3 (.t 7) (.t 16))),none,0⟩])
(.seq (.reg [⟨(some 17),(.q (.ld true 3 (.t 2))),none,0⟩,
⟨(some 18),(.q (.ld true 3 (.t 7))),none,0⟩,
⟨(some 19),(.q (.build [(.bool false),.nilsl,.nilsl,(.bool false),.nilsl,.nilsl] [(0,3,(.t 17)),(3,3,(.t 18))])),none,0⟩,
⟨(some 20),(.q (.ld true 3 (.t 3))),none,0⟩,
⟨(some 21),(.q (.ld true 3 (.t 7))),none,0⟩,
⟨(some 22),(.q (.build [(.bool false),.nilsl,.nilsl,(.bool false),.nilsl,.nilsl] [(0,3,(.t 20)),(3,3,(.t 21))])),none,0⟩,
⟨(some 23),(.a (.bslice 61 6 2 [(.bool false),.nilsl,.nilsl,(.bool false),.nilsl,.nilsl] [(0,(.t 19)),(1,(.t 22))])),none,0⟩,
⟨(some 24),(.x (.call (.c (.fn 38 [] [])) [(.t 23)])),none,0⟩,
⟨(some 25),(.q (.extract (.t 24) 0)),none,0⟩,
⟨(some 26),(.q (.extract (.t 24) 1)),none,0⟩,
⟨none,(.x (.st 3 (.t 4) (.t 25))),none,0⟩,
⟨(some 5),(.q (.mv (.t 26))),none,0⟩])
.ret))))⟩
theorem row53 : Row Tryd.prog (53, a53) := ⟨Tryd.f53, Tryd.func53, by kernel_rfl⟩
noncomputable def a54 : AFn :=
⟨21,[(.cell 4 true 3),(.t 5)],(.seq (.reg [⟨(some 2),(.a (.box 25 (.t 0))),none,0⟩,
⟨(some 3),(.a (.box 25 (.t 1))),none,0⟩,
⟨(some 4),(.a (.alloc 25 [(.bool false),.nilsl,.nilsl])),none,0⟩,
⟨(some 5),(.q (.mv (.c (.int .i64 (.ofNat 0))))),none,0⟩])
(.seq (.seq (.reg [⟨(some 7),(.q (.ld true 3 (.t 2))),none,0⟩,
⟨(some 8),(.q (.ld true 3 (.t 3))),none,0⟩,
⟨(some 9),(.x (.call (.c (.fn 35 [] [])) [(.t 7),(.t 8)])),none,0⟩,
⟨(some 6),(.q (.mv (.t 9))),none,0⟩])
(.seq (.reg [⟨(some 10),(.q (.mv (.t 6))),none,0⟩,
⟨(some 11),(.q (.bin .neq (.p .int) (.t 10) (.c (.int .i64 (.ofNat 0))))),none,0⟩])
(.cond (.t 11) (.seq (.reg [⟨(some 12),(.q (.build [(.bool false),.nilsl,.nilsl] [])),none,0⟩,
⟨(some 13),(.q (.mv (.t 6))),none,0⟩,
⟨none,(.x (.st 3 (.t 4) (.t 12))),none,0⟩,
⟨(some 5),(.q (.mv (.t 13))),none,0⟩])
.ret) .skip)))
(.seq (.reg [⟨(some 14),(.q (.ld true 3 (.t 2))),none,0⟩,
⟨(some 15),(.q (.ld true 3 (.t 3))),none,0⟩,
⟨(some 16),(.q (.build [(.bool false),.nilsl,.nilsl,(.bool false),.nilsl,.nilsl] [(0,3,(.t 14)),(3,3,(.t 15))])),none,0⟩,
⟨(some 17),(.a (.bslice 61 6 1 [(.bool false),.nilsl,.nilsl,(.bool false),.nilsl,.nilsl] [(0,(.t 16))])),none,0⟩,
⟨(some 18),(.x (.call (.c (.fn 38 [] [])) [(.t 17)])),none,0⟩,
⟨(some 19),(.q (.extract (.t 18) 0)),none,0⟩,
⟨(some 20),(.q (.extract (.t 18) 1)),none,0⟩,
⟨none,(.x (.st 3 (.t 4) (.t 19))),none,0⟩,
⟨(some 5),(.q (.mv (.t 20))),none,0⟩])
.ret)))⟩
theorem row54 : Row Tryd.prog (54, a54) := ⟨Tryd.f54, Tryd.func54, by kernel_rfl⟩
noncomputable def a77 : AFn :=
⟨21,[(.cell 6 true 3)],(.seq (.reg [⟨(some 6),(.a (.alloc 25 [(.bool false),.nilsl,.nilsl])),none,0⟩])
(.seq (.reg [⟨(some 8),(.q (.mv (.t 1))),none,0⟩,
⟨(some 9),(.q (.mv (.t 2))),none,0⟩,
⟨(some 10),(.x (.call (.c (.fn 100 [] [])) [(.t 8),(.t 9)])),none,0⟩,
⟨(some 7),(.q (.mv (.t 10))),none,0⟩])
(.seq (.drw [⟨(some 11),(.q (.mv (.t 0))),none,0⟩,
⟨(some 12),(.q (.mv (.t 1))),none,0⟩,
⟨(some 13),(.q (.mv (.t 7))),none,0⟩,
⟨(some 14),(.q (.bin .quo (.p .int) (.t 12) (.t 13))),none,6⟩,
⟨(some 15),(.x (.call (.c (.fn 31 [] [])) [(.t 14)])),none,14⟩,
⟨(some 16),(.q (.mv (.t 2))),none,0⟩,
⟨(some 17),(.q (.mv (.t 7))),none,0⟩,
⟨(some 18),(.q (.bin .quo (.p .int) (.t 16) (.t 17))),none,96⟩,
⟨(some 19),(.x (.call (.c (.fn 31 [] [])) [(.t 18)])),none,254⟩,
⟨(some 20),(.q (.build [(.bool false),.nilsl,.nilsl] [(0,1,(.t 11)),(1,1,(.t 15)),(2,1,(.t 19))])),none,511⟩,
⟨none,(.x (.st 3 (.t 6) (.t 20))),none,1023⟩])
.ret)))⟩
theorem row77 : Row Tryd.prog (77, a77) := ⟨Tryd.f77, Tryd.func77, by kernel_rfl⟩
noncomputable def a78 : AFn :=
⟨21,[(.t 2)],(.seq (.reg [⟨(some 2),(.q (.mv (.c (.int .u64 (.ofNat 0))))),none,0⟩])
(.seq (.reg [⟨(some 3),(.q (.mv (.c (.int .u64 (.ofNat 0))))),none,0⟩])
(.seq (.seq (.reg [⟨(some 5),(.q (.mv (.t 0))),none,0⟩,
⟨(some 6),(.q (.lenSl (.t 5))),none,0⟩,
⟨(some 7),(.q (.bin .sub (.p .int) (.t 6) (.c (.int .i64 (.ofNat 1))))),none,0⟩,
⟨(some 4),(.q (.mv (.t 7))),none,0⟩])
(.block 0 (.loop (.seq (.seq (.reg [⟨(some 8),(.q (.mv (.t 4))),none,0⟩,
⟨(some 9),(.q (.bin .geq (.p .int) (.t 8) (.c (.int .i64 (.ofNat 0))))),none,0⟩])
(.cond (.t 9) .skip (.exit 0)))
(.seq (.block 1 (.reg [⟨(some 12),(.q (.mv (.t 3))),none,0⟩,
⟨(some 13),(.q (.bin .mul (.p .int) (.t 12) (.c (.int .u64 (.ofNat 1000000000))))),none,0⟩,
⟨(some 14),(.q (.mv (.t 0))),none,0⟩,
⟨(some 15),(.q (.mv (.t 4))),none,0⟩,
⟨(some 16),(.q (.iaddr (.slice 1) (.t 14) (.t 15))),none,0⟩,
⟨(some 17),(.q (.ld false 1 (.t 16))),none,0⟩,
⟨(some 18),(.q (.conv (.int .u64) (.t 17))),none,0⟩,
⟨(some 19),(.q (.bin .add (.p .int) (.t 13) (.t 18))),none,0⟩,
⟨(some 3),(.q (.mv (.t 19))),none,0⟩]))
(.reg [⟨(some 10),(.q (.mv (.t 4))),none,0⟩,
⟨(some 11),(.q (.bin .sub (.p .int) (.t 10) (.c (.int .i64 (.ofNat 1))))),none,0⟩,
⟨(some 4),(.q (.mv (.t 11))),none,0⟩]))))))
(.seq (.reg [⟨(some 20),(.q (.mv (.t 3))),none,0⟩,
⟨(some 2),(.q (.mv (.t 20))),none,0⟩])
.ret))))⟩
theorem row78 : Row Tryd.prog (78, a78) := ⟨Tryd.f78, Tryd.func78, by kernel_rfl⟩
noncomputable def a79 : AFn :=
⟨91,[(.t 4)],(.seq (.reg [⟨(some 4),(.q (.mv (.c .nilsl))),none,0⟩])
(.seq (.seq (.reg [⟨(some 13),(.q (.mv (.t 0))),none,0⟩,
⟨(some 14),(.q (.lenSl (.t 13))),none,0⟩,
⟨(some 15),(.q (.bin .leq (.p .int) (.t 14) (.c (.int .i64 (.ofNat 2))))),none,0⟩,
⟨(some 16),(.q (.mv (.t 15))),none,0⟩,
⟨(some 17),(.q (.mv (.t 1))),(some (16,true)),0⟩,
⟨(some 18),(.q (.lenSl (.t 17))),(some (16,true)),0⟩,
⟨(some 19),(.q (.bin .leq (.p .int) (.t 18) (.c (.int .i64 (.ofNat 2))))),(some (16,true)),0⟩,
⟨(some 20),(.q (.pick (.t 16) (.t 19) (.c (.bool false)))),none,0⟩])
(.cond (.t 20) (.seq (.reg [⟨(some 21),(.q (.mv (.t 0))),none,0⟩,
⟨(some 22),(.x (.call (.c (.fn 78 [] [])) [(.t 21)])),none,0⟩,
⟨(some 23),(.q (.mv (.t 1))),none,0⟩,
⟨(some 24),(.x (.call (.c (.fn 78 [] [])) [(.t 23)])),none,0⟩,
⟨(some 25),(.x (.call (.c (.fn 100 [] [])) [(.t 22),(.t 24)])),none,0⟩,
⟨(some 26),(.x (.call (.c (.fn 31 [] [])) [(.t 25)])),none,0⟩,
⟨(some 4),(.q (.mv (.t 26))),none,0⟩])
.ret) .skip))
(.seq (.seq (.reg [⟨(some 27),(.q (.mv (.t 0))),none,0⟩,
⟨(some 28),(.x (.call (.c (.fn 85 [] [])) [(.t 27)])),none,0⟩,
⟨(some 29),(.q (.mv (.t 28))),none,0⟩,
⟨(some 30),(.q (.mv (.t 1))),(some (29,false)),0⟩,
⟨(some 31),(.x (.call (.c (.fn 85 [] [])) [(.t 30)])),(some (29,false)),0⟩,
⟨(some 32),(.q (.pick (.t 29) (.c (.bool true)) (.t 31))),none,0⟩])
(.cond (.t 32) (.seq (.reg [⟨(some 33),(.x (.call (.c (.fn 37 [] [])) [])),none,0⟩,
⟨(some 4),(.q (.mv (.t 33))),none,0⟩])
.ret) .skip))
(.seq (.seq (.reg [⟨(some 34),(.q (.mv (.t 0))),none,0⟩,
⟨(some 35),(.q (.mv (.t 1))),none,0⟩,
⟨(some 36),(.x (.call (.c (.fn 43 [] [])) [(.t 34),(.t 35)])),none,0⟩,
⟨(some 37),(.q (.bin .lss (.p .int) (.t 36) (.c (.int .i64 (.ofNat 0))))),none,0⟩])
(.cond (.t 37) (.reg [⟨(some 38),(.q (.mv (.t 1))),none,0⟩,
⟨(some 39),(.q (.mv (.t 0))),none,0⟩,
⟨(some 0),(.q (.mv (.t 38))),none,0⟩,
⟨(some 1),(.q (.mv (.t 39))),none,0⟩]) .skip))
(.seq (.block 0 (.loop (.seq (.seq (.reg [⟨(some 40),(.q (.mv (.t 1))),none,0⟩,
⟨(some 41),(.q (.lenSl (.t 40))),none,0⟩,
⟨(some 42),(.q (.bin .gtr (.p .int) (.t 41) (.c (.int .i64 (.ofNat 2))))),none,0⟩])
(.cond (.t 42) .skip (.exit 0)))
(.block 1 (.seq (.reg [⟨(some 44),(.q (.mv (.t 0))),none,0⟩,
⟨(some 45),(.q (.mv (.t 1))),none,0⟩,
⟨(some 46),(.x (.call (.c (.fn 125 [] [])) [(.t 44),(.t 45)])),none,0⟩,
⟨(some 47),(.q (.extract (.t 46) 0)),none,0⟩,
⟨(some 48),(.q (.extract (.t 46) 1)),none,0⟩,
⟨(some 49),(.x (.call (.c (.fn 124 [] [])) [(.t 47),(.t 48)])),none,0⟩,
⟨(some 43),(.q (.mv (.t 49))),none,0⟩,
⟨(some 50),(.q (.extract (.t 43) 0)),none,0⟩,
⟨(some 51),(.q (.extract (.t 43) 1)),none,0⟩,
⟨(some 52),(.q (.extract (.t 43) 2)),none,0⟩,
⟨(some 53),(.q (.extract (.t 43) 3)),none,0⟩,
⟨(some 5),(.q (.mv (.t 50))),none,0⟩,
⟨(some 6),(.q (.mv (.t 51))),none,0⟩,
⟨(some 7),(.q (.mv (.t 52))),none,0⟩,
⟨(some 8),(.q (.mv (.t 53))),none,0⟩])
(.seq (.seq (.reg [⟨(some 54),(.q (.mv (.t 6))),none,0⟩,
⟨(some 55),(.q (.bin .eql (.p .int) (.t 54) (.c (.int .i64 (.ofNat 0))))),none,0⟩])
(.cond (.t 55) (.seq (.reg [⟨(some 57),(.q (.mv (.t 0))),none,0⟩,
⟨(some 58),(.q (.mv (.t 1))),none,0⟩,
⟨(some 59),(.x (.call (.c (.fn 95 [] [])) [(.t 57),(.t 58)])),none,0⟩,
⟨(some 56),(.q (.mv (.t 59))),none,0⟩,
⟨(some 60),(.q (.extract (.t 56) 0)),none,0⟩,
⟨(some 61),(.q (.extract (.t 56) 1)),none,0⟩,
⟨(some 9),(.q (.mv (.t 60))),none,0⟩,
⟨(some 10),(.q (.mv (.t 61))),none,0⟩])
(.seq (.reg [⟨(some 62),(.q (.mv (.t 1))),none,0⟩,
⟨(some 63),(.q (.mv (.t 10))),none,0⟩,
⟨(some 0),(.q (.mv (.t 62))),none,0⟩,
⟨(some 1),(.q (.mv (.t 63))),none,0⟩])
(.exit 1))) .skip))
(.reg [⟨(some 64),(.q (.mv (.t 0))),none,0⟩,
⟨(some 65),(.q (.mv (.t 1))),none,0⟩,
⟨(some 66),(.q (.mv (.t 5))),none,0⟩,
⟨(some 67),(.q (.mv (.t 6))),none,0⟩,
⟨(some 68),(.x (.call (.c (.fn 126 [] [])) [(.t 64),(.t 65),(.t 66),(.t 67)])),none,0⟩,
⟨(some 69),(.q (.mv (.t 0))),none,0⟩,
⟨(some 70),(.q (.mv (.t 1))),none,0⟩,
⟨(some 71),(.q (.mv (.t 7))),none,0⟩,
⟨(some 72),(.q (.mv (.t 8))),none,0⟩,
⟨(some 73),(.x (.call (.c (.fn 126 [] [])) [(.t 69),(.t 70),(.t 71),(.t 72)])),none,0⟩,
⟨(some 0),(.q (.mv (.t 68))),none,0⟩,
⟨(some 1),(.q (.mv (.t 73))),none,0⟩])))))))
(.seq (.seq (.reg [⟨(some 74),(.q (.mv (.t 1))),none,0⟩,
⟨(some 75),(.q (.lenSl (.t 74))),none,0⟩,
⟨(some 76),(.q (.bin .eql (.p .int) (.t 75) (.c (.int .i64 (.ofNat 0))))),none,0⟩])
(.cond (.t 76) (.seq (.reg [⟨(some 77),(.q (.mv (.t 0))),none,0⟩,
⟨(some 78),(.x (.call (.c (.fn 80 [] [])) [(.t 77)])),none,0⟩,
⟨(some 4),(.q (.mv (.t 78))),none,0⟩])
.ret) .skip))
(.seq (.reg [⟨(some 80),(.q (.mv (.t 0))),none,0⟩,
⟨(some 81),(.q (.mv (.t 1))),none,0⟩,
⟨(some 82),(.x (.call (.c (.fn 95 [] [])) [(.t 80),(.t 81)])),none,0⟩,
⟨(some 79),(.q (.mv (.t 82))),none,0⟩,
⟨(some 83),(.q (.extract (.t 79) 0)),none,0⟩,
⟨(some 84),(.q (.extract (.t 79) 1)),none,0⟩,
⟨(some 11),(.q (.mv (.t 83))),none,0⟩,
⟨(some 12),(.q (.mv (.t 84))),none,0⟩])
(.seq (.reg [⟨(some 85),(.q (.mv (.t 1))),none,0⟩,
⟨(some 86),(.x (.call (.c (.fn 78 [] [])) [(.t 85)])),none,0⟩,
⟨(some 87),(.q (.mv (.t 12))),none,0⟩,
⟨(some 88),(.x (.call (.c (.fn 78 [] [])) [(.t 87)])),none,0⟩,
⟨(some 89),(.x (.call (.c (.fn 100 [] [])) [(.t 86),(.t 88)])),none,0⟩,
⟨(some 90),(.x (.call (.c (.fn 31 [] [])) [(.t 89)])),none,0⟩,
⟨(some 4),(.q (.mv (.t 90))),none,0⟩])
.ret))))))))⟩
theorem row79 : Row Tryd.prog (79, a79) := ⟨Tryd.f79, Tryd.func79, by kernel_rfl⟩
noncomputable def a80 : AFn :=
⟨5,[(.t 2)],(.seq (.reg [⟨(some 2),(.q (.mv (.c .nilsl))),none,0⟩])
(.seq (.reg [⟨(some 3),(.q (.mv (.t 0))),none,0⟩,
⟨(some 4),(.x (.app 30 1 4 (.c .nilsl) (.t 3))),none,0⟩,
⟨(some 2),(.q (.mv (.t 4))),none,0⟩])
.ret))⟩
theorem row80 : Row Tryd.prog (80, a80) := ⟨Tryd.f80, Tryd.func80, by kernel_rfl⟩
noncomputable def a81 : AFn :=
⟨17,[(.t 4)],(.seq (.reg [⟨(some 4),(.q (.mv (.c .nilsl))),none,0⟩])
(.seq (.seq (.reg [⟨(some 7),(.q (.mv (.t 1))),none,0⟩,
⟨(some 8),(.x (.call (.c (.fn 85 [] [])) [(.t 7)])),none,0⟩])
(.cond (.t 8) (.seq (.reg [⟨(some 9),(.q (.mv (.t 0))),none,0⟩,
⟨(some 4),(.q (.mv (.t 9))),none,0⟩])
.ret) .skip))
(.seq (.reg [⟨(some 11),(.q (.mv (.t 0))),none,0⟩,
⟨(some 12),(.q (.mv (.t 1))),none,0⟩,
⟨(some 13),(.x (.call (.c (.fn 95 [] [])) [(.t 11),(.t 12)])),none,0⟩,
⟨(some 10),(.q (.mv (.t 13))),none,0⟩,
⟨(some 14),(.q (.extract (.t 10) 0)),none,0⟩,
⟨(some 15),(.q (.extract (.t 10) 1)),none,0⟩,
⟨(some 5),(.q (.mv (.t 14))),none,0⟩,
⟨(some 6),(.q (.mv (.t 15))),none,0⟩])
(.seq (.reg [⟨(some 16),(.q (.mv (.t 5))),none,0⟩,
⟨(some 4),(.q (.mv (.t 16))),none,0⟩])
.ret))))⟩
theorem row81 : Row Tryd.prog (81, a81) := ⟨Tryd.f81, Tryd.func81, by kernel_rfl⟩
noncomputable def a82 : AFn :=
⟨29,[(.t 2)],(.seq (.reg [⟨(some 2),(.q (.mv (.c (.int .i64 (.ofNat 0))))),none,0⟩])
(.seq (.seq (.reg [⟨(some 5),(.q (.mv (.t 0))),none,0⟩,
⟨(some 6),(.q (.lenSl (.t 5))),none,0⟩,
⟨(some 7),(.q (.bin .gtr (.p .int) (.t 6) (.c (.int .i64 (.ofNat 1024))))),none,0⟩])
(.cond (.t 7) (.seq (.reg [⟨(some 2),(.q (.mv (.c (.int .i64 (.ofNat 4))))),none,0⟩])
.ret) .skip))
(.seq (.seq (.reg [⟨(some 8),(.q (.mv (.t 0))),none,0⟩,
⟨(some 9),(.q (.lenSl (.t 8))),none,0⟩,
⟨(some 10),(.q (.mv (.c (.int .i64 (.ofNat 0))))),none,0⟩])
(.block 0 (.loop (.seq (.reg [⟨(some 11),(.q (.bin .lss (.p .int) (.t 10) (.t 9))),none,0⟩])
(.seq (.cond (.t 11) .skip (.exit 0))
(.seq (.block 1 (.seq (.reg [⟨(some 12),(.q (.iaddr (.slice 1) (.t 8) (.t 10))),none,0⟩,
⟨(some 13),(.q (.ld false 1 (.t 12))),none,0⟩,
⟨(some 4),(.q (.mv (.t 13))),none,0⟩])
(.seq (.reg [⟨(some 14),(.q (.mv (.t 4))),none,0⟩,
⟨(some 15),(.q (.bin .geq (.p .int) (.t 14) (.c (.int .u32 (.ofNat 1000000000))))),none,0⟩])
(.cond (.t 15) (.seq (.reg [⟨(some 2),(.q (.mv (.c (.int .i64 (.ofNat 3))))),none,0⟩])
.ret) .skip))))
(.reg [⟨(some 16),(.q (.bin .add (.p .int) (.t 10) (.c (.int .i64 (.ofNat 1))))),none,0⟩,
⟨(some 10),(.q (.mv (.t 16))),none,0⟩])))))))
(.seq (.seq (.reg [⟨(some 17),(.q (.mv (.t 0))),none,0⟩,
⟨(some 18),(.q (.lenSl (.t 17))),none,0⟩,
⟨(some 19),(.q (.bin .gtr (.p .int) (.t 18) (.c (.int .i64 (.ofNat 0))))),none,0⟩,
⟨(some 20),(.q (.mv (.t 19))),none,0⟩,
⟨(some 21),(.q (.mv (.t 0))),(some (20,true)),0⟩,
⟨(some 22),(.q (.mv (.t 0))),(some (20,true)),0⟩,
⟨(some 23),(.q (.lenSl (.t 22))),(some (20,true)),0⟩,
⟨(some 24),(.q (.bin .sub (.p .int) (.t 23) (.c (.int .i64 (.ofNat 1))))),(some (20,true)),0⟩,
⟨(some 25),(.q (.iaddr (.slice 1) (.t 21) (.t 24))),(some (20,true)),0⟩,
⟨(some 26),(.q (.ld false 1 (.t 25))),(some (20,true)),0⟩,
⟨(some 27),(.q (.bin .eql (.p .int) (.t 26) (.c (.int .u32 (.ofNat 0))))),(some (20,true)),0⟩,
⟨(some 28),(.q (.pick (.t 20) (.t 27) (.c (.bool false)))),none,0⟩])
(.cond (.t 28) (.seq (.reg [⟨(some 2),(.q (.mv (.c (.int .i64 (.ofNat 3))))),none,0⟩])
.ret) .skip))
(.seq (.reg [⟨(some 2),(.q (.mv (.c (.int .i64 (.ofNat 0))))),none,0⟩])
.ret)))))⟩
theorem row82 : Row Tryd.prog (82, a82) := ⟨Tryd.f82, Tryd.func82, by kernel_rfl⟩
noncomputable def a83 : AFn :=
⟨26,[(.t 4)],(.seq (.reg [⟨(some 4),(.q (.mv (.c (.bool false)))),none,0⟩])
(.seq (.seq (.reg [⟨(some 6),(.q (.mv (.t 0))),none,0⟩,
⟨(some 7),(.q (.lenSl (.t 6))),none,0⟩,
⟨(some 8),(.q (.mv (.t 1))),none,0⟩,
⟨(some 9),(.q (.lenSl (.t 8))),none,0⟩,
⟨(some 10),(.q (.bin .neq (.p .int) (.t 7) (.t 9))),none,0⟩])
(.cond (.t 10) (.seq (.reg [⟨(some 4),(.q (.mv (.c (.bool false)))),none,0⟩])
.ret) .skip))
(.seq (.seq (.reg [⟨(some 5),(.q (.mv (.c (.int .i64 (.ofNat 0))))),none,0⟩])
(.block 0 (.loop (.seq (.seq (.reg [⟨(some 11),(.q (.mv (.t 5))),none,0⟩,
⟨(some 12),(.q (.mv (.t 0))),none,0⟩,
⟨(some 13),(.q (.lenSl (.t 12))),none,0⟩,
⟨(some 14),(.q (.bin .lss (.p .int) (.t 11) (.t 13))),none,0⟩])
(.cond (.t 14) .skip (.exit 0)))
(.seq (.block 1 (.seq (.drw [⟨(some 17),(.q (.mv (.t 0))),none,0⟩,
⟨(some 18),(.q (.mv (.t 5))),none,0⟩,
⟨(some 19),(.q (.iaddr (.slice 1) (.t 17) (.t 18))),none,3⟩,
⟨(some 20),(.q (.ld false 1 (.t 19))),none,7⟩,
⟨(some 21),(.q (.mv (.t 1))),none,0⟩,
⟨(some 22),(.q (.mv (.t 5))),none,0⟩,
⟨(some 23),(.q (.iaddr (.slice 1) (.t 21) (.t 22))),none,48⟩,
⟨(some 24),(.q (.ld false 1 (.t 23))),none,112⟩,
⟨(some 25),(.q (.bin .neq (.p .int) (.t 20) (.t 24))),none,255⟩])
(.cond (.t 25) (.seq (.reg [⟨(some 4),(.q (.mv (.c (.bool false)))),none,0⟩])
.ret) .skip)))
(.reg [⟨(some 15),(.q (.mv (.t 5))),none,0⟩,
⟨(some 16),(.q (.bin .add (.p .int) (.t 15) (.c (.int .i64 (.ofNat 1))))),none,0⟩,
⟨(some 5),(.q (.mv (.t 16))),none,0⟩]))))))
(.seq (.reg [⟨(some 4),(.q (.mv (.c (.bool true)))),none,0⟩])
.ret))))⟩
theorem row83 : Row Tryd.prog (83, a83) := ⟨Tryd.f83, Tryd.func83, by kernel_rfl⟩
noncomputable def a84 : AFn :=
⟨26,[(.cell 2 true 3)],(.seq (.reg [⟨(some 1),(.a (.box 61 (.t 0))),none,0⟩,
⟨(some 2),(.a (.alloc 25 [(.bool false),.nilsl,.nilsl])),none,0⟩])
(.seq (.seq (.reg [⟨(some 3),(.q (.faddr 3 (.t 1))),none,0⟩,
⟨(some 4),(.q (.faddr 1 (.t 3))),none,0⟩,
⟨(some 5),(.q (.ld false 1 (.t 4))),none,0⟩,
⟨(some 6),(.x (.call (.c (.fn 85 [] [])) [(.t 5)])),none,0⟩,
⟨(some 7),(.q (.mv (.t 6))),none,0⟩,
⟨(some 8),(.q (.faddr 3 (.t 1))),(some (7,true)),0⟩,
⟨(some 9),(.q (.faddr 2 (.t 8))),(some (7,true)),0⟩,
⟨(some 10),(.q (.ld false 1 (.t 9))),(some (7,true)),0⟩,
⟨(some 11),(.x (.call (.c (.fn 85 [] [])) [(.t 10)])),(some (7,true)),0⟩,
⟨(some 12),(.q (.pick (.t 7) (.t 11) (.c (.bool false)))),none,0⟩,
⟨(some 13),(.q (.mv (.t 12))),none,0⟩,
⟨(some 14),(.q (.faddr 3 (.t 1))),(some (13,true)),0⟩,
⟨(some 15),(.q (.faddr 0 (.t 14))),(some (13,true)),0⟩,
⟨(some 16),(.q (.ld false 1 (.t 15))),(some (13,true)),0⟩,
⟨(some 17),(.q (.un .not (.t 16))),(some (13,true)),0⟩,
⟨(some 18),(.q (.pick (.t 13) (.t 17) (.c (.bool false)))),none,0⟩])
(.cond (.t 18) (.seq (.reg [⟨(some 19),(.q (.faddr 0 (.t 1))),none,0⟩,
⟨(some 20),(.q (.ld true 3 (.t 19))),none,0⟩,
⟨none,(.x (.st 3 (.t 2) (.t 20))),none,0⟩])
.ret) .skip))
(.seq (.reg [⟨(some 21),(.q (.faddr 0 (.t 1))),none,0⟩,
⟨(some 22),(.q (.ld true 3 (.t 21))),none,0⟩,
⟨(some 23),(.q (.faddr 3 (.t 1))),none,0⟩,
⟨(some 24),(.q (.ld true 3 (.t 23))),none,0⟩,
⟨(some 25),(.x (.call (.c (.fn 86 [] [])) [(.t 22),(.t 24)])),none,0⟩,
⟨none,(.x (.st 3 (.t 2) (.t 25))),none,0⟩])
.ret)))⟩
theorem row84 : Row Tryd.prog (84, a84) := ⟨Tryd.f84, Tryd.func84, by kernel_rfl⟩
noncomputable def a85 : AFn :=
⟨12,[(.t 2)],(.seq (.reg [⟨(some 2),(.q (.mv (.c (.bool false)))),none,0⟩])
(.seq (.reg [⟨(some 3),(.q (.mv (.t 0))),none,0⟩,
⟨(some 4),(.q (.lenSl (.t 3))),none,0⟩,
⟨(some 5),(.q (.bin .eql (.p .int) (.t 4) (.c (.int .i64 (.ofNat 1))))),none,0⟩,
⟨(some 6),(.q (.mv (.t 5))),none,0⟩,
⟨(some 7),(.q (.mv (.t 0))),(some (6,true)),0⟩,
⟨(some 8),(.q (.iaddr (.slice 1) (.t 7) (.c (.int .i64 (.ofNat 0))))),(some (6,true)),0⟩,
⟨(some 9),(.q (.ld false 1 (.t 8))),(some (6,true)),0⟩,
⟨(some 10),(.q (.bin .eql (.p .int) (.t 9) (.c (.int .u32 (.ofNat 1))))),(some (6,true)),0⟩,
⟨(some 11),(.q (.pick (.t 6) (.t 10) (.c (.bool false)))),none,0⟩,
⟨(some 2),(.q (.mv (.t 11))),none,0⟩])
.ret))⟩
theorem row85 : Row Tryd.prog (85, a85) := ⟨Tryd.f85, Tryd.func85, by kernel_rfl⟩
noncomputable def a86 : AFn :=
⟨83,[(.cell 4 true 3)],(.seq (.reg [⟨(some 2),(.a (.box 25 (.t 0))),none,0⟩,
⟨(some 3),(.a (.box 25 (.t 1))),none,0⟩,
⟨(some 4),(.a (.alloc 25 [(.bool false),.nilsl,.nilsl])),none,0⟩])
(.seq (.seq (.reg [⟨(some 9),(.q (.faddr 1 (.t 2))),none,0⟩,
⟨(some 10),(.q (.ld false 1 (.t 9))),none,0⟩,
⟨(some 11),(.q (.lenSl (.t 10))),none,0⟩,
⟨(some 12),(.q (.bin .eql (.p .int) (.t 11) (.c (.int .i64 (.ofNat 0))))),none,0⟩,
⟨(some 13),(.q (.mv (.t 12))),none,0⟩,
⟨(some 14),(.q (.faddr 1 (.t 3))),(some (13,false)),0⟩,
⟨(some 15),(.q (.ld false 1 (.t 14))),(some (13,false)),0⟩,
⟨(some 16),(.q (.lenSl (.t 15))),(some (13,false)),0⟩,
⟨(some 17),(.q (.bin .eql (.p .int) (.t 16) (.c (.int .i64 (.ofNat 0))))),(some (13,false)),0⟩,
⟨(some 18),(.q (.pick (.t 13) (.c (.bool true)) (.t 17))),none,0⟩])
(.cond (.t 18) (.seq (.reg [⟨(some 19),(.x (.call (.c (.fn 50 [] [])) [])),none,0⟩,
⟨none,(.x (.st 3 (.t 4) (.t 19))),none,0⟩])
.ret) .skip))
(.seq (.reg [⟨(some 20),(.q (.faddr 0 (.t 2))),none,0⟩,
⟨(some 21),(.q (.ld false 1 (.t 20))),none,0⟩,
⟨(some 22),(.q (.faddr 0 (.t 3))),none,0⟩,
⟨(some 23),(.q (.ld false 1 (.t 22))),none,0⟩,
⟨(some 24),(.q (.bin .neq (.p .bool) (.t 21) (.t 23))),none,0⟩,
⟨(some 5),(.q (.mv (.t 24))),none,0⟩])
(.seq (.seq (.reg [⟨(some 25),(.q (.ld true 3 (.t 2))),none,0⟩,
⟨(some 26),(.q (.ld true 3 (.t 3))),none,0⟩,
⟨(some 27),(.x (.call (.c (.fn 127 [] [])) [(.t 25),(.t 26)])),none,0⟩])
(.cond (.t 27) (.seq (.drw [⟨(some 28),(.q (.mv (.t 5))),none,0⟩,
⟨(some 29),(.q (.faddr 1 (.t 2))),none,0⟩,
⟨(some 30),(.q (.ld false 1 (.t 29))),none,2⟩,
⟨(some 31),(.q (.iaddr (.slice 1) (.t 30) (.c (.int .i64 (.ofNat 0))))),none,6⟩,
⟨(some 32),(.q (.ld false 1 (.t 31))),none,14⟩,
⟨(some 33),(.q (.conv (.int .u64) (.t 32))),none,30⟩,
⟨(some 34),(.q (.faddr 1 (.t 3))),none,0⟩,
⟨(some 35),(.q (.ld false 1 (.t 34))),none,64⟩,
⟨(some 36),(.q (.iaddr (.slice 1) (.t 35) (.c (.int .i64 (.ofNat 0))))),none,192⟩,
⟨(some 37),(.q (.ld false 1 (.t 36))),none,448⟩,
⟨(some 38),(.q (.conv (.int .u64) (.t 37))),none,960⟩,
⟨(some 39),(.q (.bin .mul (.p .int) (.t 33) (.t 38))),none,2046⟩,
⟨(some 40),(.q (.faddr 2 (.t 2))),none,0⟩,
⟨(some 41),(.q (.ld false 1 (.t 40))),none,4096⟩,
⟨(some 42),(.q (.iaddr (.slice 1) (.t 41) (.c (.int .i64 (.ofNat 0))))),none,12288⟩,
⟨(some 43),(.q (.ld false 1 (.t 42))),none,28672⟩,
⟨(some 44),(.q (.conv (.int .u64) (.t 43))),none,61440⟩,
⟨(some 45),(.q (.faddr 2 (.t 3))),none,0⟩,
⟨(some 46),(.q (.ld false 1 (.t 45))),none,131072⟩,
⟨(some 47),(.q (.iaddr (.slice 1) (.t 46) (.c (.int .i64 (.ofNat 0))))),none,393216⟩,
⟨(some 48),(.q (.ld false 1 (.t 47))),none,917504⟩,
⟨(some 49),(.q (.conv (.int .u64) (.t 48))),none,1966080⟩,
⟨(some 50),(.q (.bin .mul (.p .int) (.t 44) (.t 49))),none,4190208⟩,
⟨(some 51),(.x (.call (.c (.fn 77 [] [])) [(.t 28),(.t 39),(.t 50)])),none,8388607⟩,
⟨none,(.x (.st 3 (.t 4) (.t 51))),none,16777215⟩])
.ret) .skip))
(.seq (.drw [⟨(some 52),(.q (.faddr 1 (.t 2))),none,0⟩,
⟨(some 53),(.q (.ld false 1 (.t 52))),none,1⟩,
⟨(some 54),(.q (.faddr 2 (.t 3))),none,0⟩,
⟨(some 55),(.q (.ld false 1 (.t 54))),none,4⟩,
⟨(some 56),(.x (.call (.c (.fn 79 [] [])) [(.t 53),(.t 55)])),none,15⟩,
⟨(some 57),(.q (.faddr 1 (.t 3))),none,0⟩,
⟨(some 58),(.q (.ld false 1 (.t 57))),none,32⟩,
⟨(some 59),(.q (.faddr 2 (.t 2))),none,0⟩,
⟨(some 60),(.q (.ld false 1 (.t 59))),none,128⟩,
⟨(some 61),(.x (.call (.c (.fn 79 [] [])) [(.t 58),(.t 60)])),none,511⟩,
⟨(some 6),(.q (.mv (.t 56))),none,1023⟩,
⟨(some 7),(.q (.mv (.t 61))),none,2047⟩])
(.seq (.drw [⟨(some 62),(.q (.faddr 1 (.t 2))),none,0⟩,
⟨(some 63),(.q (.ld false 1 (.t 62))),none,1⟩,
⟨(some 64),(.q (.mv (.t 6))),none,0⟩,
⟨(some 65),(.x (.call (.c (.fn 81 [] [])) [(.t 63),(.t 64)])),none,7⟩,
⟨(some 66),(.q (.faddr 1 (.t 3))),none,0⟩,
⟨(some 67),(.q (.ld false 1 (.t 66))),none,16⟩,
⟨(some 68),(.q (.mv (.t 7))),none,0⟩,
⟨(some 69),(.x (.call (.c (.fn 81 [] [])) [(.t 67),(.t 68)])),none,127⟩,
⟨(some 70),(.x (.call (.c (.fn 44 [] [])) [(.t 65),(.t 69)])),none,255⟩,
⟨(some 8),(.q (.mv (.t 70))),none,511⟩])
(.seq (.drw [⟨(some 71),(.q (.mv (.t 5))),none,0⟩,
⟨(some 72),(.q (.mv (.t 8))),none,0⟩,
⟨(some 73),(.q (.faddr 2 (.t 2))),none,0⟩,
⟨(some 74),(.q (.ld false 1 (.t 73))),none,4⟩,
⟨(some 75),(.q (.mv (.t 7))),none,0⟩,
⟨(some 76),(.x (.call (.c (.fn 81 [] [])) [(.t 74),(.t 75)])),none,28⟩,
⟨(some 77),(.q (.faddr 2 (.t 3))),none,0⟩,
⟨(some 78),(.q (.ld false 1 (.t 77))),none,64⟩,
⟨(some 79),(.q (.mv (.t 6))),none,0⟩,
⟨(some 80),(.x (.call (.c (.fn 81 [] [])) [(.t 78),(.t 79)])),none,508⟩,
⟨(some 81),(.x (.call (.c (.fn 44 [] [])) [(.t 76),(.t 80)])),none,1020⟩,
⟨(some 82),(.q (.build [(.bool false),.nilsl,.nilsl] [(0,1,(.t 71)),(1,1,(.t 72)),(2,1,(.t 81))])),none,2047⟩,
⟨none,(.x (.st 3 (.t 4) (.t 82))),none,4095⟩])
.ret)))))))⟩
theorem row86 : Row Tryd.prog (86, a86) := ⟨Tryd.f86, Tryd.func86, by kernel_rfl⟩
noncomputable def a87 : AFn :=
⟨21,[(.cell 6 true 3)],(.seq (.reg [⟨(some 3),(.a (.box 25 (.t 0))),none,0⟩,
⟨(some 6),(.a (.alloc 25 [(.bool false),.nilsl,.nilsl])),none,0⟩])
(.seq (.seq (.reg [⟨(some 9),(.q (.mv (.t 2))),none,0⟩,
⟨(some 10),(.q (.lenSl (.t 9))),none,0⟩,
⟨(some 11),(.q (.mv (.c (.int .i64 (.ofNat 0))))),none,0⟩])
(.block 0 (.loop (.seq (.reg [⟨(some 12),(.q (.bin .lss (.p .int) (.t 11) (.t 10))),none,0⟩])
(.seq (.cond (.t 12) .skip (.exit 0))
(.seq (.block 1 (.seq (.reg [⟨(some 13),(.q (.iaddr (.slice 6) (.t 9) (.t 11))),none,0⟩,
⟨(some 14),(.q (.ld true 6 (.t 13))),none,0⟩,
⟨(some 8),(.a (.alloc 61 [(.bool false),.nilsl,.nilsl,(.bool false),.nilsl,.nilsl])),none,0⟩,
⟨none,(.x (.st 6 (.t 8) (.t 14))),none,0⟩])
(.reg [⟨(some 15),(.q (.mv (.t 1))),none,0⟩,
⟨(some 16),(.q (.ld true 3 (.t 3))),none,0⟩,
⟨(some 17),(.q (.ld true 6 (.t 8))),none,0⟩,
⟨(some 18),(.x (.call (.t 15) [(.t 16),(.t 17)])),none,0⟩,
⟨none,(.x (.st 3 (.t 3) (.t 18))),none,0⟩])))
(.reg [⟨(some 19),(.q (.bin .add (.p .int) (.t 11) (.c (.int .i64 (.ofNat 1))))),none,0⟩,
⟨(some 11),(.q (.mv (.t 19))),none,0⟩])))))))
(.seq (.reg [⟨(some 20),(.q (.ld true 3 (.t 3))),none,0⟩,
⟨none,(.x (.st 3 (.t 6) (.t 20))),none,0⟩])
.ret)))⟩
theorem row87 : Row Tryd.prog (87, a87) := ⟨Tryd.f87, Tryd.func87, by kernel_rfl⟩
noncomputable def a88 : AFn :=
⟨11,[(.cell 5 true 3)],(.seq (.reg [⟨(some 3),(.a (.box 25 (.t 0))),none,0⟩,
⟨(some 4),(.a (.box 61 (.t 1))),none,0⟩,
⟨(some 5),(.a (.alloc 25 [(.bool false),.nilsl,.nilsl])),none,0⟩])
(.seq (.drw [⟨(some 6),(.q (.ld true 3 (.t 3))),none,0⟩,
⟨(some 7),(.q (.ld false 1 (.t 2))),none,0⟩,
⟨(some 8),(.q (.ld true 6 (.t 4))),none,0⟩,
⟨(some 9),(.x (.call (.t 7) [(.t 8)])),none,6⟩,
⟨(some 10),(.x (.call (.c (.fn 89 [] [])) [(.t 6),(.t 9)])),none,15⟩,
⟨none,(.x (.st 3 (.t 5) (.t 10))),none,31⟩])
.ret))⟩
theorem row88 : Row Tryd.prog (88, a88) := ⟨Tryd.f88, Tryd.func88, by kernel_rfl⟩
noncomputable def a89 : AFn :=
⟨86,[(.cell 4 true 3)],(.seq (.reg [⟨(some 2),(.a (.box 25 (.t 0))),none,0⟩,
⟨(some 3),(.a (.box 25 (.t 1))),none,0⟩,
⟨(some 4),(.a (.alloc 25 [(.bool false),.nilsl,.nilsl])),none,0⟩])
(.seq (.seq (.reg [⟨(some 11),(.q (.faddr 1 (.t 2))),none,0⟩,
⟨(some 12),(.q (.ld false 1 (.t 11))),none,0⟩,
⟨(some 13),(.q (.lenSl (.t 12))),none,0⟩,
⟨(some 14),(.q (.bin .eql (.p .int) (.t 13) (.c (.int .i64 (.ofNat 0))))),none,0⟩])
(.cond (.t 14) (.seq (.reg [⟨(some 15),(.q (.ld true 3 (.t 3))),none,0⟩,
⟨(some 16),(.x (.call (.c (.fn 48 [] [])) [(.t 15)])),none,0⟩,
⟨none,(.x (.st 3 (.t 4) (.t 16))),none,0⟩])
.ret) .skip))
(.seq (.seq (.reg [⟨(some 17),(.q (.faddr 1 (.t 3))),none,0⟩,
⟨(some 18),(.q (.ld false 1 (.t 17))),none,0⟩,
⟨(some 19),(.q (.lenSl (.t 18))),none,0⟩,
⟨(some 20),(.q (.bin .eql (.p .int) (.t 19) (.c (.int .i64 (.ofNat 0))))),none,0⟩])
(.cond (.t 20) (.seq (.reg [⟨(some 21),(.q (.ld true 3 (.t 2))),none,0⟩,
⟨(some 22),(.x (.call (.c (.fn 48 [] [])) [(.t 21)])),none,0⟩,
⟨none,(.x (.st 3 (.t 4) (.t 22))),none,0⟩])
.ret) .skip))
(.seq (.seq (.reg [⟨(some 23),(.q (.ld true 3 (.t 2))),none,0⟩,
⟨(some 24),(.q (.ld true 3 (.t 3))),none,0⟩,
⟨(some 25),(.x (.call (.c (.fn 127 [] [])) [(.t 23),(.t 24)])),none,0⟩])
(.cond (.t 25) (.seq (.reg [⟨(some 26),(.q (.ld true 3 (.t 2))),none,0⟩,
⟨(some 27),(.q (.ld true 3 (.t 3))),none,0⟩,
⟨(some 28),(.x (.call (.c (.fn 128 [] [])) [(.t 26),(.t 27)])),none,0⟩,
⟨none,(.x (.st 3 (.t 4) (.t 28))),none,0⟩])
.ret) .skip))
(.seq (.reg [⟨(some 29),(.q (.faddr 2 (.t 2))),none,0⟩,
⟨(some 30),(.q (.ld false 1 (.t 29))),none,0⟩,
⟨(some 31),(.q (.faddr 2 (.t 3))),none,0⟩,
⟨(some 32),(.q (.ld false 1 (.t 31))),none,0⟩,
⟨(some 33),(.x (.call (.c (.fn 79 [] [])) [(.t 30),(.t 32)])),none,0⟩,
⟨(some 5),(.q (.mv (.t 33))),none,0⟩])
(.seq (.drw [⟨(some 34),(.q (.faddr 2 (.t 2))),none,0⟩,
⟨(some 35),(.q (.ld false 1 (.t 34))),none,1⟩,
⟨(some 36),(.q (.mv (.t 5))),none,0⟩,
⟨(some 37),(.x (.call (.c (.fn 81 [] [])) [(.t 35),(.t 36)])),none,7⟩,
⟨(some 38),(.q (.faddr 2 (.t 3))),none,0⟩,
⟨(some 39),(.q (.ld false 1 (.t 38))),none,16⟩,
⟨(some 40),(.q (.mv (.t 5))),none,0⟩,
⟨(some 41),(.x (.call (.c (.fn 81 [] [])) [(.t 39),(.t 40)])),none,127⟩,
⟨(some 6),(.q (.mv (.t 37))),none,255⟩,
⟨(some 7),(.q (.mv (.t 41))),none,511⟩])
(.seq (.drw [⟨(some 43),(.q (.faddr 0 (.t 2))),none,0⟩,
⟨(some 44),(.q (.ld false 1 (.t 43))),none,1⟩,
⟨(some 45),(.q (.faddr 1 (.t 2))),none,0⟩,
⟨(some 46),(.q (.ld false 1 (.t 45))),none,4⟩,
⟨(some 47),(.q (.mv (.t 7))),none,0⟩,
⟨(some 48),(.x (.call (.c (.fn 44 [] [])) [(.t 46),(.t 47)])),none,28⟩,
⟨(some 49),(.q (.faddr 0 (.t 3))),none,0⟩,
⟨(some 50),(.q (.ld false 1 (.t 49))),none,64⟩,
⟨(some 51),(.q (.faddr 1 (.t 3))),none,0⟩,
⟨(some 52),(.q (.ld false 1 (.t 51))),none,256⟩,
⟨(some 53),(.q (.mv (.t 6))),none,0⟩,
⟨(some 54),(.x (.call (.c (.fn 44 [] [])) [(.t 52),(.t 53)])),none,1852⟩,
⟨(some 55),(.x (.call (.c (.fn 129 [] [])) [(.t 44),(.t 48),(.t 50),(.t 54)])),none,4095⟩,
⟨(some 42),(.q (.mv (.t 55))),none,8191⟩,
⟨(some 56),(.q (.extract (.t 42) 0)),none,16383⟩,
⟨(some 57),(.q (.extract (.t 42) 1)),none,16383⟩,
⟨(some 8),(.q (.mv (.t 56))),none,32767⟩,
⟨(some 9),(.q (.mv (.t 57))),none,131071⟩])
(.seq (.seq (.reg [⟨(some 58),(.q (.mv (.t 9))),none,0⟩,
⟨(some 59),(.q (.lenSl (.t 58))),none,0⟩,
⟨(some 60),(.q (.bin .eql (.p .int) (.t 59) (.c (.int .i64 (.ofNat 0))))),none,0⟩])
(.cond (.t 60) (.seq (.reg [⟨(some 61),(.x (.call (.c (.fn 50 [] [])) [])),none,0⟩,
⟨none,(.x (.st 3 (.t 4) (.t 61))),none,0⟩])
.ret) .skip))
(.seq (.seq (.reg [⟨(some 62),(.q (.mv (.t 5))),none,0⟩,
⟨(some 63),(.x (.call (.c (.fn 85 [] [])) [(.t 62)])),none,0⟩])
(.cond (.t 63) (.seq (.reg [⟨(some 64),(.q (.mv (.t 8))),none,0⟩,
⟨(some 65),(.q (.mv (.t 9))),none,0⟩,
⟨(some 66),(.q (.faddr 2 (.t 2))),none,0⟩,
⟨(some 67),(.q (.ld false 1 (.t 66))),none,0⟩,
⟨(some 68),(.q (.faddr 2 (.t 3))),none,0⟩,
⟨(some 69),(.q (.ld false 1 (.t 68))),none,0⟩,
⟨(some 70),(.x (.call (.c (.fn 44 [] [])) [(.t 67),(.t 69)])),none,0⟩,
⟨(some 71),(.q (.build [(.bool false),.nilsl,.nilsl] [(0,1,(.t 64)),(1,1,(.t 65)),(2,1,(.t 70))])),none,0⟩,
⟨none,(.x (.st 3 (.t 4) (.t 71))),none,0⟩])
.ret) .skip))
(.seq (.reg [⟨(some 72),(.q (.mv (.t 9))),none,0⟩,
⟨(some 73),(.q (.mv (.t 5))),none,0⟩,
⟨(some 74),(.x (.call (.c (.fn 79 [] [])) [(.t 72),(.t 73)])),none,0⟩,
⟨(some 10),(.q (.mv (.t 74))),none,0⟩])
(.seq (.drw [⟨(some 75),(.q (.mv (.t 8))),none,0⟩,
⟨(some 76),(.q (.mv (.t 9))),none,0⟩,
⟨(some 77),(.q (.mv (.t 10))),none,0⟩,
⟨(some 78),(.x (.call (.c (.fn 81 [] [])) [(.t 76),(.t 77)])),none,6⟩,
⟨(some 79),(.q (.mv (.t 6))),none,0⟩,
⟨(some 80),(.q (.faddr 2 (.t 3))),none,0⟩,
⟨(some 81),(.q (.ld false 1 (.t 80))),none,32⟩,
⟨(some 82),(.q (.mv (.t 10))),none,0⟩,
⟨(some 83),(.x (.call (.c (.fn 81 [] [])) [(.t 81),(.t 82)])),none,238⟩,
⟨(some 84),(.x (.call (.c (.fn 44 [] [])) [(.t 79),(.t 83)])),none,510⟩,
⟨(some 85),(.q (.build [(.bool false),.nilsl,.nilsl] [(0,1,(.t 75)),(1,1,(.t 78)),(2,1,(.t 84))])),none,1023⟩,
⟨none,(.x (.st 3 (.t 4) (.t 85))),none,2047⟩])
.ret)))))))))))⟩
theorem row89 : Row Tryd.prog (89, a89) := ⟨Tryd.f89, Tryd.func89, by kernel_rfl⟩
noncomputable def a90 : AFn :=
⟨17,[(.cell 2 true 3)],(.seq (.reg [⟨(some 1),(.a (.box 25 (.t 0))),none,0⟩,
⟨(some 2),(.a (.alloc 25 [(.bool false),.nilsl,.nilsl])),none,0⟩])
(.seq (.reg [⟨(some 3),(.q (.faddr 0 (.t 1))),none,0⟩,
⟨(some 4),(.q (.ld false 1 (.t 3))),none,0⟩,
⟨(some 5),(.q (.un .not (.t 4))),none,0⟩,
⟨(some 6),(.q (.mv (.t 5))),none,0⟩,
⟨(some 7),(.q (.faddr 1 (.t 1))),(some (6,true)),0⟩,
⟨(some 8),(.q (.ld false 1 (.t 7))),(some (6,true)),0⟩,
⟨(some 9),(.q (.lenSl (.t 8))),(some (6,true)),0⟩,
⟨(some 10),(.q (.bin .gtr (.p .int) (.t 9) (.c (.int .i64 (.ofNat 0))))),(some (6,true)),0⟩,
⟨(some 11),(.q (.pick (.t 6) (.t 10) (.c (.bool false)))),none,0⟩,
⟨(some 12),(.q (.faddr 1 (.t 1))),none,0⟩,
⟨(some 13),(.q (.ld false 1 (.t 12))),none,0⟩,
⟨(some 14),(.q (.faddr 2 (.t 1))),none,0⟩,
⟨(some 15),(.q (.ld false 1 (.t 14))),none,0⟩,
⟨(some 16),(.q (.build [(.bool false),.nilsl,.nilsl] [(0,1,(.t 11)),(1,1,(.t 13)),(2,1,(.t 15))])),none,0⟩,
⟨none,(.x (.st 3 (.t 2) (.t 16))),none,0⟩])
.ret))⟩
theorem row90 : Row Tryd.prog (90, a90) := ⟨Tryd.f90, Tryd.func90, by kernel_rfl⟩
noncomputable def a91 : AFn :=
⟨15,[(.t 4)],(.seq (.reg [⟨(some 4),(.q (.mv (.c (.int .i64 (.ofNat 0))))),none,0⟩])
(.seq (.block 0 (.loop (.seq (.seq (.reg [⟨(some 5),(.q (.mv (.t 1))),none,0⟩,
⟨(some 6),(.q (.bin .neq (.p .int) (.t 5) (.c (.int .i64 (.ofNat 0))))),none,0⟩])
(.cond (.t 6) .skip (.exit 0)))
(.block 1 (.drw [⟨(some 7),(.q (.mv (.t 1))),none,0⟩,
⟨(some 8),(.q (.mv (.t 0))),none,0⟩,
⟨(some 9),(.q (.mv (.t 1))),none,0⟩,
⟨(some 10),(.q (.bin .rem (.p .int) (.t 8) (.t 9))),none,6⟩,
⟨(some 0),(.q (.mv (.t 7))),none,3⟩,
⟨(some 1),(.q (.mv (.t 10))),none,31⟩])))))
(.seq (.reg [⟨(some 11),(.q (.mv (.t 0))),none,0⟩,
⟨(some 12),(.q (.mv (.t 0))),none,0⟩,
⟨(some 13),(.q (.un .neg (.t 12))),none,0⟩,
⟨(some 14),(.q (.minmax true [(.t 11),(.t 13)])),none,0⟩,
⟨(some 4),(.q (.mv (.t 14))),none,0⟩])
.ret)))⟩
theorem row91 : Row Tryd.prog (91, a91) := ⟨Tryd.f91, Tryd.func91, by kernel_rfl⟩
noncomputable def a92 : AFn :=
⟨15,[(.t 2)],(.seq (.reg [⟨(some 2),(.q (.mv (.c .nilsl))),none,0⟩])
(.seq (.reg [⟨(some 3),(.q (.mv (.c .nilsl))),none,0⟩])
(.seq (.block 0 (.loop (.seq (.seq (.reg [⟨(some 4),(.q (.mv (.t 0))),none,0⟩,
⟨(some 5),(.q (.bin .gtr (.p .int) (.t 4) (.c (.int .i64 (.ofNat 0))))),none,0⟩])
(.cond (.t 5) .skip (.exit 0)))
(.block 1 (.seq (.reg [⟨(some 6),(.q (.mv (.t 3))),none,0⟩,
⟨(some 7),(.q (.mv (.t 0))),none,0⟩,
⟨(some 8),(.q (.bin .rem (.p .int) (.t 7) (.c (.int .i64 (.ofNat 1000000000))))),none,0⟩,
⟨(some 9),(.q (.conv (.int .u32) (.t 8))),none,0⟩,
⟨(some 10),(.a (.bslice 30 1 1 [(.int .u32 (.ofNat 0))] [(0,(.t 9))])),none,0⟩,
⟨(some 11),(.x (.app 30 1 4 (.t 6) (.t 10))),none,0⟩,
⟨(some 3),(.q (.mv (.t 11))),none,0⟩])
(.reg [⟨(some 12),(.q (.mv (.t 0))),none,0⟩,
⟨(some 13),(.q (.bin .quo (.p .int) (.t 12) (.c (.int .i64 (.ofNat 1000000000))))),none,0⟩,
⟨(some 0),(.q (.mv (.t 13))),none,0⟩]))))))
(.seq (.reg [⟨(some 14),(.q (.mv (.t 3))),none,0⟩,
⟨(some 2),(.q (.mv (.t 14))),none,0⟩])
.ret))))⟩
theorem row92 : Row Tryd.prog (92, a92) := ⟨Tryd.f92, Tryd.func92, by kernel_rfl⟩
noncomputable def a93 : AFn :=
⟨21,[(.t 2)],(.seq (.reg [⟨(some 2),(.q (.mv (.c .nilsl))),none,0⟩])
(.seq (.block 0 (.loop (.seq (.seq (.reg [⟨(some 3),(.q (.mv (.t 0))),none,0⟩,
⟨(some 4),(.q (.lenSl (.t 3))),none,0⟩,
⟨(some 5),(.q (.bin .gtr (.p .int) (.t 4) (.c (.int .i64 (.ofNat 0))))),none,0⟩,
⟨(some 6),(.q (.mv (.t 5))),none,0⟩,
⟨(some 7),(.q (.mv (.t 0))),(some (6,true)),0⟩,
⟨(some 8),(.q (.mv (.t 0))),(some (6,true)),0⟩,
⟨(some 9),(.q (.lenSl (.t 8))),(some (6,true)),0⟩,
⟨(some 10),(.q (.bin .sub (.p .int) (.t 9) (.c (.int .i64 (.ofNat 1))))),(some (6,true)),0⟩,
⟨(some 11),(.q (.iaddr (.slice 1) (.t 7) (.t 10))),(some (6,true)),0⟩,
⟨(some 12),(.q (.ld false 1 (.t 11))),(some (6,true)),0⟩,
⟨(some 13),(.q (.bin .eql (.p .int) (.t 12) (.c (.int .u32 (.ofNat 0))))),(some (6,true)),0⟩,
⟨(some 14),(.q (.pick (.t 6) (.t 13) (.c (.bool false)))),none,0⟩])
(.cond (.t 14) .skip (.exit 0)))
(.block 1 (.reg [⟨(some 15),(.q (.mv (.t 0))),none,0⟩,
⟨(some 16),(.q (.mv (.t 0))),none,0⟩,
⟨(some 17),(.q (.lenSl (.t 16))),none,0⟩,
⟨(some 18),(.q (.bin .sub (.p .int) (.t 17) (.c (.int .i64 (.ofNat 1))))),none,0⟩,
⟨(some 19),(.q (.slc (.slice 1) (.t 15) none (some (.t 18)) none)),none,0⟩,
⟨(some 0),(.q (.mv (.t 19))),none,0⟩])))))
(.seq (.reg [⟨(some 20),(.q (.mv (.t 0))),none,0⟩,
⟨(some 2),(.q (.mv (.t 20))),none,0⟩])
.ret)))⟩
theorem row93 : Row Tryd.prog (93, a93) := ⟨Tryd.f93, Tryd.func93, by kernel_rfl⟩
noncomputable def a94 : AFn :=
⟨13,[(.t 2)],(.seq (.reg [⟨(some 1),(.a (.box 25 (.t 0))),none,0⟩,
⟨(some 2),(.q (.mv (.c (.bool false)))),none,0⟩])
(.seq (.reg [⟨(some 3),(.q (.faddr 1 (.t 1))),none,0⟩,
⟨(some 4),(.q (.ld false 1 (.t 3))),none,0⟩,
⟨(some 5),(.q (.lenSl (.t 4))),none,0⟩,
⟨(some 6),(.q (.bin .leq (.p .int) (.t 5) (.c (.int .i64 (.ofNat 1024))))),none,0⟩,
⟨(some 7),(.q (.mv (.t 6))),none,0⟩,
⟨(some 8),(.q (.faddr 2 (.t 1))),(some (7,true)),0⟩,
⟨(some 9),(.q (.ld false 1 (.t 8))),(some (7,true)),0⟩,
⟨(some 10),(.q (.lenSl (.t 9))),(some (7,true)),0⟩,
⟨(some 11),(.q (.bin .leq (.p .int) (.t 10) (.c (.int .i64 (.ofNat 1024))))),(some (7,true)),0⟩,
⟨(some 12),(.q (.pick (.t 7) (.t 11) (.c (.bool false)))),none,0⟩,
⟨(some 2),(.q (.mv (.t 12))),none,0⟩])
.ret))⟩
theorem row94 : Row Tryd.prog (94, a94) := ⟨Tryd.f94, Tryd.func94, by kernel_rfl⟩
noncomputable def a95 : AFn :=
⟨93,[(.t 4),(.t 5)],(.seq (.reg [⟨(some 4),(.q (.mv (.c .nilsl))),none,0⟩,
⟨(some 5),(.q (.mv (.c .nilsl))),none,0⟩])
(.seq (.seq (.reg [⟨(some 13),(.q (.mv (.t 0))),none,0⟩,
⟨(some 14),(.q (.mv (.t 1))),none,0⟩,
⟨(some 15),(.x (.call (.c (.fn 43 [] [])) [(.t 13),(.t 14)])),none,0⟩,
⟨(some 16),(.q (.bin .lss (.p .int) (.t 15) (.c (.int .i64 (.ofNat 0))))),none,0⟩])
(.cond (.t 16) (.seq (.reg [⟨(some 17),(.q (.mv (.t 0))),none,0⟩,
⟨(some 18),(.x (.call (.c (.fn 80 [] [])) [(.t 17)])),none,0⟩,
⟨(some 4),(.q (.mv (.c .nilsl))),none,0⟩,
⟨(some 5),(.q (.mv (.t 18))),none,0⟩])
.ret) .skip))
(.seq (.seq (.reg [⟨(some 19),(.q (.mv (.t 1))),none,0⟩,
⟨(some 20),(.q (.lenSl (.t 19))),none,0⟩,
⟨(some 21),(.q (.bin .eql (.p .int) (.t 20) (.c (.int .i64 (.ofNat 1))))),none,0⟩])
(.cond (.t 21) (.seq (.reg [⟨(some 23),(.q (.mv (.t 0))),none,0⟩,
⟨(some 24),(.q (.mv (.t 1))),none,0⟩,
⟨(some 25),(.q (.iaddr (.slice 1) (.t 24) (.c (.int .i64 (.ofNat 0))))),none,0⟩,
⟨(some 26),(.q (.ld false 1 (.t 25))),none,0⟩,
⟨(some 27),(.x (.call (.c (.fn 130 [] [])) [(.t 23),(.t 26)])),none,0⟩,
⟨(some 22),(.q (.mv (.t 27))),none,0⟩,
⟨(some 28),(.q (.extract (.t 22) 0)),none,0⟩,
⟨(some 29),(.q (.extract (.t 22) 1)),none,0⟩,
⟨(some 6),(.q (.mv (.t 28))),none,0⟩,
⟨(some 7),(.q (.mv (.t 29))),none,0⟩])
(.seq (.reg [⟨(some 30),(.q (.mv (.t 6))),none,0⟩,
⟨(some 31),(.q (.mv (.t 7))),none,0⟩,
⟨(some 32),(.q (.conv (.int .u64) (.t 31))),none,0⟩,
⟨(some 33),(.x (.call (.c (.fn 31 [] [])) [(.t 32)])),none,0⟩,
⟨(some 4),(.q (.mv (.t 30))),none,0⟩,
⟨(some 5),(.q (.mv (.t 33))),none,0⟩])
.ret)) .skip))
(.seq (.reg [⟨(some 34),(.q (.mv (.t 1))),none,0⟩,
⟨(some 35),(.q (.lenSl (.t 34))),none,0⟩,
⟨(some 8),(.q (.mv (.t 35))),none,0⟩])
(.seq (.reg [⟨(some 36),(.q (.mv (.t 1))),none,0⟩,
⟨(some 37),(.q (.mv (.t 8))),none,0⟩,
⟨(some 38),(.q (.bin .sub (.p .int) (.t 37) (.c (.int .i64 (.ofNat 1))))),none,0⟩,
⟨(some 39),(.q (.iaddr (.slice 1) (.t 36) (.t 38))),none,0⟩,
⟨(some 40),(.q (.ld false 1 (.t 39))),none,0⟩,
⟨(some 41),(.q (.conv (.int .u64) (.t 40))),none,0⟩,
⟨(some 42),(.q (.bin .add (.p .int) (.t 41) (.c (.int .u64 (.ofNat 1))))),none,0⟩,
⟨(some 43),(.q (.bin .quo (.p .int) (.c (.int .u64 (.ofNat 1000000000))) (.t 42))),none,0⟩,
⟨(some 9),(.q (.mv (.t 43))),none,0⟩])
(.seq (.reg [⟨(some 44),(.q (.mv (.t 0))),none,0⟩,
⟨(some 45),(.q (.mv (.t 9))),none,0⟩,
⟨(some 46),(.q (.mv (.t 0))),none,0⟩,
⟨(some 47),(.q (.lenSl (.t 46))),none,0⟩,
⟨(some 48),(.q (.bin .add (.p .int) (.t 47) (.c (.int .i64 (.ofNat 1))))),none,0⟩,
⟨(some 49),(.x (.call (.c (.fn 131 [] [])) [(.t 44),(.t 45),(.t 48)])),none,0⟩,
⟨(some 10),(.q (.mv (.t 49))),none,0⟩])
(.seq (.reg [⟨(some 50),(.q (.mv (.t 1))),none,0⟩,
⟨(some 51),(.q (.mv (.t 9))),none,0⟩,
⟨(some 52),(.q (.mv (.t 8))),none,0⟩,
⟨(some 53),(.x (.call (.c (.fn 131 [] [])) [(.t 50),(.t 51),(.t 52)])),none,0⟩,
⟨(some 11),(.q (.mv (.t 53))),none,0⟩])
(.seq (.reg [⟨(some 54),(.q (.mv (.t 0))),none,0⟩,
⟨(some 55),(.q (.lenSl (.t 54))),none,0⟩,
⟨(some 56),(.q (.mv (.t 8))),none,0⟩,
⟨(some 57),(.q (.bin .sub (.p .int) (.t 55) (.t 56))),none,0⟩,
⟨(some 58),(.q (.bin .add (.p .int) (.t 57) (.c (.int .i64 (.ofNat 1))))),none,0⟩,
⟨(some 59),(.a (.mkSlice 30 1 4 [(.int .u32 (.ofNat 0))] (.t 58) (.t 58))),none,0⟩,
⟨(some 4),(.q (.mv (.t 59))),none,0⟩])
(.seq (.seq (.reg [⟨(some 60),(.q (.mv (.t 0))),none,0⟩,
⟨(some 61),(.q (.lenSl (.t 60))),none,0⟩,
⟨(some 62),(.q (.mv (.t 8))),none,0⟩,
⟨(some 63),(.q (.bin .sub (.p .int) (.t 61) (.t 62))),none,0⟩,
⟨(some 12),(.q (.mv (.t 63))),none,0⟩])
(.block 0 (.loop (.seq (.seq (.reg [⟨(some 64),(.q (.mv (.t 12))),none,0⟩,
⟨(some 65),(.q (.bin .geq (.p .int) (.t 64) (.c (.int .i64 (.ofNat 0))))),none,0⟩])
(.cond (.t 65) .skip (.exit 0)))
(.seq (.block 1 (.reg [⟨(some 68),(.q (.mv (.t 4))),none,0⟩,
⟨(some 69),(.q (.mv (.t 12))),none,0⟩,
⟨(some 70),(.q (.mv (.t 10))),none,0⟩,
⟨(some 71),(.q (.mv (.t 12))),none,0⟩,
⟨(some 72),(.q (.mv (.t 12))),none,0⟩,
⟨(some 73),(.q (.mv (.t 8))),none,0⟩,
⟨(some 74),(.q (.bin .add (.p .int) (.t 72) (.t 73))),none,0⟩,
⟨(some 75),(.q (.bin .add (.p .int) (.t 74) (.c (.int .i64 (.ofNat 1))))),none,0⟩,
⟨(some 76),(.q (.slc (.slice 1) (.t 70) (some (.t 71)) (some (.t 75)) none)),none,0⟩,
⟨(some 77),(.q (.mv (.t 11))),none,0⟩,
⟨(some 78),(.x (.call (.c (.fn 132 [] [])) [(.t 76),(.t 77)])),none,0⟩,
⟨(some 79),(.q (.iaddr (.slice 1) (.t 68) (.t 69))),none,0⟩,
⟨none,(.x (.st 1 (.t 79) (.t 78))),none,0⟩]))
(.reg [⟨(some 66),(.q (.mv (.t 12))),none,0⟩,
⟨(some 67),(.q (.bin .sub (.p .int) (.t 66) (.c (.int .i64 (.ofNat 1))))),none,0⟩,
⟨(some 12),(.q (.mv (.t 67))),none,0⟩]))))))
(.seq (.reg [⟨(some 81),(.q (.mv (.t 10))),none,0⟩,
⟨(some 82),(.q (.mv (.t 8))),none,0⟩,
⟨(some 83),(.q (.slc (.slice 1) (.t 81) none (some (.t 82)) none)),none,0⟩,
⟨(some 84),(.x (.call (.c (.fn 93 [] [])) [(.t 83)])),none,0⟩,
⟨(some 85),(.q (.mv (.t 9))),none,0⟩,
⟨(some 86),(.q (.conv (.int .u32) (.t 85))),none,0⟩,
⟨(some 87),(.x (.call (.c (.fn 130 [] [])) [(.t 84),(.t 86)])),none,0⟩,
⟨(some 80),(.q (.mv (.t 87))),none,0⟩,
⟨(some 88),(.q (.extract (.t 80) 0)),none,0⟩,
⟨(some 89),(.q (.extract (.t 80) 1)),none,0⟩,
⟨(some 5),(.q (.mv (.t 88))),none,0⟩])
(.seq (.reg [⟨(some 90),(.q (.mv (.t 4))),none,0⟩,
⟨(some 91),(.x (.call (.c (.fn 93 [] [])) [(.t 90)])),none,0⟩,
⟨(some 92),(.q (.mv (.t 5))),none,0⟩,
⟨(some 4),(.q (.mv (.t 91))),none,0⟩,
⟨(some 5),(.q (.mv (.t 92))),none,0⟩])
.ret)))))))))))⟩
theorem row95 : Row Tryd.prog (95, a95) := ⟨Tryd.f95, Tryd.func95, by kernel_rfl⟩
end Go.Proofs.YtopemogpgppjlaaDoor.ratKnown
