/- The functions that MergeNames reaches, as data of the evaluator (part 0), written by program; each is shown to be the compiler's result on the loaded function. -/
import Derived.Test.YtfmgnnfghdjpfaaDoorProg
import Derived.Test.YtfmgnnfghdjpfaaDoorEv7
import Derived.KernelRfl
namespace Go.Proofs.YtfmgnnfghdjpfaaDoor.mergeNames
open Go.Ev
set_option maxRecDepth 100000
noncomputable def a6 : AFn :=
⟨31,[(.t 0)],(.seq (.reg [⟨(some 0),(.q (.mv (.c (.bool false)))),none,0⟩])
(.seq (.reg [⟨(some 6),(.x (.call (.c (.fn 21 [] [])) [])),none,0⟩,
⟨(some 7),(.x (.call (.c (.fn 12 [] [])) [(.t 6)])),none,0⟩,
⟨(some 5),(.q (.mv (.t 7))),none,0⟩,
⟨(some 8),(.q (.extract (.t 5) 0)),none,0⟩,
⟨(some 9),(.q (.extract (.t 5) 1)),none,0⟩,
⟨(some 1),(.a (.alloc 32 [(.int .i64 (.ofNat 0)),.nilsl,.nilsl])),none,0⟩,
⟨none,(.x (.st 3 (.t 1) (.t 8))),none,0⟩,
⟨(some 2),(.q (.mv (.t 9))),none,0⟩])
(.seq (.reg [⟨(some 11),(.x (.call (.c (.fn 21 [] [])) [])),none,0⟩,
⟨(some 12),(.x (.call (.c (.fn 10 [] [])) [(.t 11)])),none,0⟩,
⟨(some 10),(.q (.mv (.t 12))),none,0⟩,
⟨(some 13),(.q (.extract (.t 10) 0)),none,0⟩,
⟨(some 14),(.q (.extract (.t 10) 1)),none,0⟩,
⟨(some 3),(.q (.mv (.t 13))),none,0⟩,
⟨(some 4),(.q (.mv (.t 14))),none,0⟩])
(.seq (.drw [⟨(some 15),(.q (.mv (.t 2))),none,0⟩,
⟨(some 16),(.q (.bin .eql (.p .int) (.t 15) (.c (.int .i64 (.ofNat 0))))),none,1⟩,
⟨(some 17),(.q (.mv (.t 16))),none,3⟩,
⟨(some 18),(.q (.ld true 3 (.t 1))),(some (17,true)),7⟩,
⟨(some 19),(.x (.call (.c (.fn 23 [] [])) [])),(some (17,true)),7⟩,
⟨(some 20),(.x (.call (.c (.fn 15 [] [])) [(.t 18),(.t 19)])),(some (17,true)),31⟩,
⟨(some 21),(.q (.pick (.t 17) (.t 20) (.c (.bool false)))),none,63⟩,
⟨(some 22),(.q (.mv (.t 21))),none,127⟩,
⟨(some 23),(.q (.mv (.t 4))),(some (22,true)),255⟩,
⟨(some 24),(.q (.bin .eql (.p .int) (.t 23) (.c (.int .i64 (.ofNat 0))))),(some (22,true)),511⟩,
⟨(some 25),(.q (.pick (.t 22) (.t 24) (.c (.bool false)))),none,1023⟩,
⟨(some 26),(.q (.mv (.t 25))),none,2047⟩,
⟨(some 27),(.q (.mv (.t 3))),(some (26,true)),4095⟩,
⟨(some 28),(.a (.bslice 3 1 8 [(.int .i64 (.ofNat 0))] [(0,(.c (.int .i64 (.ofNat 0)))),(1,(.c (.int .i64 (.ofNat 2)))),(2,(.c (.int .i64 (.ofNat 1)))),(3,(.c (.int .i64 (.ofNat 2)))),(4,(.c (.int .i64 (.ofNat 3)))),(5,(.c (.int .i64 (.ofNat 1)))),(6,(.c (.int .i64 (.ofNat 2)))),(7,(.c (.int .i64 (.ofNat 3))))])),(some (26,true)),4095⟩,
⟨(some 29),(.x (.call (.c (.fn 14 [] [])) [(.t 27),(.t 28)])),(some (26,true)),16383⟩,
⟨(some 30),(.q (.pick (.t 26) (.t 29) (.c (.bool false)))),none,32767⟩,
⟨(some 0),(.q (.mv (.t 30))),none,65535⟩])
.ret))))⟩
theorem row6 : Row Tryd.prog (6, a6) := ⟨Tryd.f6, Tryd.func6, by kernel_rfl⟩
noncomputable def a8 : AFn :=
⟨12,[(.t 2),(.t 3)],(.seq (.reg [⟨(some 1),(.a (.box 25 (.t 0))),none,0⟩,
⟨(some 2),(.q (.mv (.c .nilsl))),none,0⟩,
⟨(some 3),(.q (.mv (.c (.int .i64 (.ofNat 0))))),none,0⟩])
(.seq (.seq (.reg [⟨(some 5),(.q (.ld true 3 (.t 1))),none,0⟩,
⟨(some 6),(.x (.call (.c (.fn 25 [] [])) [(.t 5)])),none,0⟩,
⟨(some 4),(.q (.mv (.t 6))),none,0⟩])
(.seq (.reg [⟨(some 7),(.q (.mv (.t 4))),none,0⟩,
⟨(some 8),(.q (.bin .neq (.p .int) (.t 7) (.c (.int .i64 (.ofNat 0))))),none,0⟩])
(.cond (.t 8) (.seq (.reg [⟨(some 9),(.q (.mv (.t 4))),none,0⟩,
⟨(some 2),(.q (.mv (.c .nilsl))),none,0⟩,
⟨(some 3),(.q (.mv (.t 9))),none,0⟩])
.ret) .skip)))
(.seq (.reg [⟨(some 10),(.q (.ld true 3 (.t 1))),none,0⟩,
⟨(some 11),(.x (.call (.c (.fn 26 [] [])) [(.t 10)])),none,0⟩,
⟨(some 2),(.q (.mv (.t 11))),none,0⟩,
⟨(some 3),(.q (.mv (.c (.int .i64 (.ofNat 0))))),none,0⟩])
.ret)))⟩
theorem row8 : Row Tryd.prog (8, a8) := ⟨Tryd.f8, Tryd.func8, by kernel_rfl⟩
noncomputable def a10 : AFn :=
⟨18,[(.t 2),(.t 3)],(.seq (.reg [⟨(some 1),(.a (.box 25 (.t 0))),none,0⟩,
⟨(some 2),(.q (.mv (.c .nilsl))),none,0⟩,
⟨(some 3),(.q (.mv (.c (.int .i64 (.ofNat 0))))),none,0⟩])
(.seq (.seq (.reg [⟨(some 7),(.q (.ld true 3 (.t 1))),none,0⟩,
⟨(some 8),(.x (.call (.c (.fn 25 [] [])) [(.t 7)])),none,0⟩,
⟨(some 4),(.q (.mv (.t 8))),none,0⟩])
(.seq (.reg [⟨(some 9),(.q (.mv (.t 4))),none,0⟩,
⟨(some 10),(.q (.bin .neq (.p .int) (.t 9) (.c (.int .i64 (.ofNat 0))))),none,0⟩])
(.cond (.t 10) (.seq (.reg [⟨(some 11),(.q (.mv (.t 4))),none,0⟩,
⟨(some 2),(.q (.mv (.c .nilsl))),none,0⟩,
⟨(some 3),(.q (.mv (.t 11))),none,0⟩])
.ret) .skip)))
(.seq (.reg [⟨(some 13),(.q (.ld true 3 (.t 1))),none,0⟩,
⟨(some 14),(.x (.call (.c (.fn 29 [] [])) [(.t 13)])),none,0⟩,
⟨(some 12),(.q (.mv (.t 14))),none,0⟩,
⟨(some 15),(.q (.extract (.t 12) 0)),none,0⟩,
⟨(some 16),(.q (.extract (.t 12) 1)),none,0⟩,
⟨(some 5),(.q (.mv (.t 15))),none,0⟩,
⟨(some 6),(.q (.mv (.t 16))),none,0⟩])
(.seq (.reg [⟨(some 17),(.q (.mv (.t 5))),none,0⟩,
⟨(some 2),(.q (.mv (.t 17))),none,0⟩,
⟨(some 3),(.q (.mv (.c (.int .i64 (.ofNat 0))))),none,0⟩])
.ret))))⟩
theorem row10 : Row Tryd.prog (10, a10) := ⟨Tryd.f10, Tryd.func10, by kernel_rfl⟩
noncomputable def a12 : AFn :=
⟨13,[(.cell 2 true 3),(.t 3)],(.seq (.reg [⟨(some 1),(.a (.box 25 (.t 0))),none,0⟩,
⟨(some 2),(.a (.alloc 32 [(.int .i64 (.ofNat 0)),.nilsl,.nilsl])),none,0⟩,
⟨(some 3),(.q (.mv (.c (.int .i64 (.ofNat 0))))),none,0⟩])
(.seq (.seq (.reg [⟨(some 5),(.q (.ld true 3 (.t 1))),none,0⟩,
⟨(some 6),(.x (.call (.c (.fn 25 [] [])) [(.t 5)])),none,0⟩,
⟨(some 4),(.q (.mv (.t 6))),none,0⟩])
(.seq (.reg [⟨(some 7),(.q (.mv (.t 4))),none,0⟩,
⟨(some 8),(.q (.bin .neq (.p .int) (.t 7) (.c (.int .i64 (.ofNat 0))))),none,0⟩])
(.cond (.t 8) (.seq (.reg [⟨(some 9),(.q (.build [(.int .i64 (.ofNat 0)),.nilsl,.nilsl] [])),none,0⟩,
⟨(some 10),(.q (.mv (.t 4))),none,0⟩,
⟨none,(.x (.st 3 (.t 2) (.t 9))),none,0⟩,
⟨(some 3),(.q (.mv (.t 10))),none,0⟩])
.ret) .skip)))
(.seq (.reg [⟨(some 11),(.q (.ld true 3 (.t 1))),none,0⟩,
⟨(some 12),(.x (.call (.c (.fn 31 [] [])) [(.t 11)])),none,0⟩,
⟨none,(.x (.st 3 (.t 2) (.t 12))),none,0⟩,
⟨(some 3),(.q (.mv (.c (.int .i64 (.ofNat 0))))),none,0⟩])
.ret)))⟩
theorem row12 : Row Tryd.prog (12, a12) := ⟨Tryd.f12, Tryd.func12, by kernel_rfl⟩
noncomputable def a14 : AFn :=
⟨26,[(.t 4)],(.seq (.reg [⟨(some 4),(.q (.mv (.c (.bool false)))),none,0⟩])
(.seq (.seq (.reg [⟨(some 6),(.q (.mv (.t 0))),none,0⟩,
⟨(some 7),(.q (.lenSl (.t 6))),none,0⟩,
⟨(some 8),(.q (.mv (.t 1))),none,0⟩,
⟨(some 9),(.q (.lenSl (.t 8))),none,0⟩,
⟨(some 10),(.q (.bin .neq (.p .int) (.t 7) (.t 9))),none,0⟩])
(.cond (.t 10) (.seq (.reg [⟨(some 4),(.q (.mv (.c (.bool false)))),none,0⟩])
.ret) .skip))
(.seq (.seq (.reg [⟨(some 5),(.q (.mv (.c (.int .i64 (.ofNat 0))))),none,0⟩])
(.block 0 (.loop (.seq (.seq (.reg [⟨(some 11),(.q (.mv (.t 5))),none,0⟩,
⟨(some 12),(.q (.mv (.t 0))),none,0⟩,
⟨(some 13),(.q (.lenSl (.t 12))),none,0⟩,
⟨(some 14),(.q (.bin .lss (.p .int) (.t 11) (.t 13))),none,0⟩])
(.cond (.t 14) .skip (.exit 0)))
(.seq (.block 1 (.seq (.drw [⟨(some 17),(.q (.mv (.t 0))),none,0⟩,
⟨(some 18),(.q (.mv (.t 5))),none,0⟩,
⟨(some 19),(.q (.iaddr (.slice 1) (.t 17) (.t 18))),none,3⟩,
⟨(some 20),(.q (.ld false 1 (.t 19))),none,7⟩,
⟨(some 21),(.q (.mv (.t 1))),none,0⟩,
⟨(some 22),(.q (.mv (.t 5))),none,0⟩,
⟨(some 23),(.q (.iaddr (.slice 1) (.t 21) (.t 22))),none,48⟩,
⟨(some 24),(.q (.ld false 1 (.t 23))),none,112⟩,
⟨(some 25),(.q (.bin .neq (.p .int) (.t 20) (.t 24))),none,255⟩])
(.cond (.t 25) (.seq (.reg [⟨(some 4),(.q (.mv (.c (.bool false)))),none,0⟩])
.ret) .skip)))
(.reg [⟨(some 15),(.q (.mv (.t 5))),none,0⟩,
⟨(some 16),(.q (.bin .add (.p .int) (.t 15) (.c (.int .i64 (.ofNat 1))))),none,0⟩,
⟨(some 5),(.q (.mv (.t 16))),none,0⟩]))))))
(.seq (.reg [⟨(some 4),(.q (.mv (.c (.bool true)))),none,0⟩])
.ret))))⟩
theorem row14 : Row Tryd.prog (14, a14) := ⟨Tryd.f14, Tryd.func14, by kernel_rfl⟩
noncomputable def a15 : AFn :=
⟨8,[(.t 4)],(.seq (.reg [⟨(some 2),(.a (.box 32 (.t 0))),none,0⟩,
⟨(some 3),(.a (.box 32 (.t 1))),none,0⟩,
⟨(some 4),(.q (.mv (.c (.bool false)))),none,0⟩])
(.seq (.reg [⟨(some 5),(.q (.ld true 3 (.t 2))),none,0⟩,
⟨(some 6),(.q (.ld true 3 (.t 3))),none,0⟩,
⟨(some 7),(.x (.call (.c (.fn 16 [] [])) [(.t 5),(.t 6)])),none,0⟩,
⟨(some 4),(.q (.mv (.t 7))),none,0⟩])
.ret))⟩
theorem row15 : Row Tryd.prog (15, a15) := ⟨Tryd.f15, Tryd.func15, by kernel_rfl⟩
noncomputable def a16 : AFn :=
⟨47,[(.t 4)],(.seq (.reg [⟨(some 2),(.a (.box 25 (.t 0))),none,0⟩,
⟨(some 3),(.a (.box 25 (.t 1))),none,0⟩,
⟨(some 4),(.q (.mv (.c (.bool false)))),none,0⟩])
(.seq (.seq (.reg [⟨(some 6),(.q (.faddr 0 (.t 2))),none,0⟩,
⟨(some 7),(.q (.ld false 1 (.t 6))),none,0⟩,
⟨(some 8),(.q (.faddr 0 (.t 3))),none,0⟩,
⟨(some 9),(.q (.ld false 1 (.t 8))),none,0⟩,
⟨(some 10),(.q (.bin .neq (.p .int) (.t 7) (.t 9))),none,0⟩,
⟨(some 11),(.q (.mv (.t 10))),none,0⟩,
⟨(some 12),(.q (.faddr 1 (.t 2))),(some (11,false)),0⟩,
⟨(some 13),(.q (.ld false 1 (.t 12))),(some (11,false)),0⟩,
⟨(some 14),(.q (.lenSl (.t 13))),(some (11,false)),0⟩,
⟨(some 15),(.q (.faddr 1 (.t 3))),(some (11,false)),0⟩,
⟨(some 16),(.q (.ld false 1 (.t 15))),(some (11,false)),0⟩,
⟨(some 17),(.q (.lenSl (.t 16))),(some (11,false)),0⟩,
⟨(some 18),(.q (.bin .neq (.p .int) (.t 14) (.t 17))),(some (11,false)),0⟩,
⟨(some 19),(.q (.pick (.t 11) (.c (.bool true)) (.t 18))),none,0⟩,
⟨(some 20),(.q (.mv (.t 19))),none,0⟩,
⟨(some 21),(.q (.faddr 2 (.t 2))),(some (20,false)),0⟩,
⟨(some 22),(.q (.ld false 1 (.t 21))),(some (20,false)),0⟩,
⟨(some 23),(.q (.faddr 2 (.t 3))),(some (20,false)),0⟩,
⟨(some 24),(.q (.ld false 1 (.t 23))),(some (20,false)),0⟩,
⟨(some 25),(.x (.call (.c (.fn 33 [] [])) [(.t 22),(.t 24)])),(some (20,false)),0⟩,
⟨(some 26),(.q (.un .not (.t 25))),(some (20,false)),0⟩,
⟨(some 27),(.q (.pick (.t 20) (.c (.bool true)) (.t 26))),none,0⟩])
(.cond (.t 27) (.seq (.reg [⟨(some 4),(.q (.mv (.c (.bool false)))),none,0⟩])
.ret) .skip))
(.seq (.seq (.reg [⟨(some 5),(.q (.mv (.c (.int .i64 (.ofNat 0))))),none,0⟩])
(.block 0 (.loop (.seq (.seq (.reg [⟨(some 28),(.q (.mv (.t 5))),none,0⟩,
⟨(some 29),(.q (.faddr 1 (.t 2))),none,0⟩,
⟨(some 30),(.q (.ld false 1 (.t 29))),none,0⟩,
⟨(some 31),(.q (.lenSl (.t 30))),none,0⟩,
⟨(some 32),(.q (.bin .lss (.p .int) (.t 28) (.t 31))),none,0⟩])
(.cond (.t 32) .skip (.exit 0)))
(.seq (.block 1 (.seq (.drw [⟨(some 35),(.q (.faddr 1 (.t 2))),none,0⟩,
⟨(some 36),(.q (.ld false 1 (.t 35))),none,1⟩,
⟨(some 37),(.q (.mv (.t 5))),none,0⟩,
⟨(some 38),(.q (.iaddr (.slice 6) (.t 36) (.t 37))),none,7⟩,
⟨(some 39),(.q (.ld true 6 (.t 38))),none,15⟩,
⟨(some 40),(.q (.faddr 1 (.t 3))),none,0⟩,
⟨(some 41),(.q (.ld false 1 (.t 40))),none,32⟩,
⟨(some 42),(.q (.mv (.t 5))),none,0⟩,
⟨(some 43),(.q (.iaddr (.slice 6) (.t 41) (.t 42))),none,224⟩,
⟨(some 44),(.q (.ld true 6 (.t 43))),none,480⟩,
⟨(some 45),(.x (.call (.c (.fn 34 [] [])) [(.t 39),(.t 44)])),none,1023⟩,
⟨(some 46),(.q (.un .not (.t 45))),none,2047⟩])
(.cond (.t 46) (.seq (.reg [⟨(some 4),(.q (.mv (.c (.bool false)))),none,0⟩])
.ret) .skip)))
(.reg [⟨(some 33),(.q (.mv (.t 5))),none,0⟩,
⟨(some 34),(.q (.bin .add (.p .int) (.t 33) (.c (.int .i64 (.ofNat 1))))),none,0⟩,
⟨(some 5),(.q (.mv (.t 34))),none,0⟩]))))))
(.seq (.reg [⟨(some 4),(.q (.mv (.c (.bool true)))),none,0⟩])
.ret))))⟩
theorem row16 : Row Tryd.prog (16, a16) := ⟨Tryd.f16, Tryd.func16, by kernel_rfl⟩
noncomputable def a19 : AFn :=
⟨60,[(.cell 2 true 3),(.t 3)],(.seq (.reg [⟨(some 1),(.a (.box 32 (.t 0))),none,0⟩,
⟨(some 2),(.a (.alloc 25 [(.int .i64 (.ofNat 0)),.nilsl,.nilsl])),none,0⟩,
⟨(some 3),(.q (.mv (.c (.int .i64 (.ofNat 0))))),none,0⟩])
(.seq (.seq (.reg [⟨(some 6),(.q (.ld true 3 (.t 1))),none,0⟩,
⟨(some 7),(.x (.call (.c (.fn 37 [] [])) [(.t 6)])),none,0⟩,
⟨(some 8),(.q (.un .not (.t 7))),none,0⟩])
(.cond (.t 8) (.seq (.reg [⟨(some 9),(.q (.build [(.int .i64 (.ofNat 0)),.nilsl,.nilsl] [])),none,0⟩,
⟨none,(.x (.st 3 (.t 2) (.t 9))),none,0⟩,
⟨(some 3),(.q (.mv (.c (.int .i64 (.ofNat 3))))),none,0⟩])
.ret) .skip))
(.seq (.seq (.reg [⟨(some 10),(.q (.ld true 3 (.t 1))),none,0⟩,
⟨(some 11),(.x (.call (.c (.fn 38 [] [])) [(.t 10)])),none,0⟩,
⟨(some 12),(.q (.bin .gtr (.p .int) (.t 11) (.c (.int .i64 (.ofNat 2000))))),none,0⟩])
(.cond (.t 12) (.seq (.reg [⟨(some 13),(.q (.build [(.int .i64 (.ofNat 0)),.nilsl,.nilsl] [])),none,0⟩,
⟨none,(.x (.st 3 (.t 2) (.t 13))),none,0⟩,
⟨(some 3),(.q (.mv (.c (.int .i64 (.ofNat 5))))),none,0⟩])
.ret) .skip))
(.seq (.reg [⟨(some 14),(.q (.ld true 3 (.t 1))),none,0⟩,
⟨(some 15),(.x (.call (.c (.fn 39 [] [])) [(.t 14)])),none,0⟩,
⟨(some 4),(.a (.alloc 25 [(.int .i64 (.ofNat 0)),.nilsl,.nilsl])),none,0⟩,
⟨none,(.x (.st 3 (.t 4) (.t 15))),none,0⟩])
(.seq (.seq (.reg [⟨(some 16),(.q (.ld true 3 (.t 4))),none,0⟩,
⟨(some 17),(.x (.call (.c (.fn 25 [] [])) [(.t 16)])),none,0⟩,
⟨(some 18),(.q (.bin .neq (.p .int) (.t 17) (.c (.int .i64 (.ofNat 0))))),none,0⟩])
(.cond (.t 18) (.seq (.reg [⟨(some 19),(.q (.build [(.int .i64 (.ofNat 0)),.nilsl,.nilsl] [])),none,0⟩,
⟨none,(.x (.st 3 (.t 2) (.t 19))),none,0⟩,
⟨(some 3),(.q (.mv (.c (.int .i64 (.ofNat 3))))),none,0⟩])
.ret) .skip))
(.seq (.seq (.drw [⟨(some 20),(.q (.ld true 3 (.t 4))),none,0⟩,
⟨(some 21),(.x (.call (.c (.fn 31 [] [])) [(.t 20)])),none,1⟩,
⟨(some 22),(.q (.fld false 1 1 (.t 21))),none,3⟩,
⟨(some 23),(.q (.faddr 1 (.t 1))),none,0⟩,
⟨(some 24),(.q (.ld false 1 (.t 23))),none,8⟩,
⟨(some 25),(.x (.call (.c (.fn 40 [] [])) [(.t 22),(.t 24),(.c (.fn 41 [] []))])),none,31⟩,
⟨(some 26),(.q (.un .not (.t 25))),none,63⟩])
(.cond (.t 26) (.seq (.reg [⟨(some 27),(.q (.build [(.int .i64 (.ofNat 0)),.nilsl,.nilsl] [])),none,0⟩,
⟨none,(.x (.st 3 (.t 2) (.t 27))),none,0⟩,
⟨(some 3),(.q (.mv (.c (.int .i64 (.ofNat 3))))),none,0⟩])
.ret) .skip))
(.seq (.seq (.reg [⟨(some 28),(.q (.faddr 1 (.t 4))),none,0⟩,
⟨(some 29),(.q (.ld false 1 (.t 28))),none,0⟩,
⟨(some 30),(.q (.lenSl (.t 29))),none,0⟩,
⟨(some 31),(.q (.mv (.c (.int .i64 (.ofNat 0))))),none,0⟩])
(.block 0 (.loop (.seq (.reg [⟨(some 32),(.q (.bin .lss (.p .int) (.t 31) (.t 30))),none,0⟩])
(.seq (.cond (.t 32) .skip (.exit 0))
(.seq (.block 1 (.seq (.reg [⟨(some 33),(.q (.mv (.t 31))),none,0⟩,
⟨(some 5),(.q (.mv (.t 33))),none,0⟩])
(.seq (.drw [⟨(some 34),(.q (.faddr 1 (.t 4))),none,0⟩,
⟨(some 35),(.q (.ld false 1 (.t 34))),none,1⟩,
⟨(some 36),(.q (.mv (.t 5))),none,0⟩,
⟨(some 37),(.q (.faddr 1 (.t 4))),none,0⟩,
⟨(some 38),(.q (.ld false 1 (.t 37))),none,8⟩,
⟨(some 39),(.q (.mv (.t 5))),none,0⟩,
⟨(some 40),(.q (.iaddr (.slice 6) (.t 38) (.t 39))),none,56⟩,
⟨(some 41),(.q (.faddr 4 (.t 40))),none,120⟩,
⟨(some 42),(.q (.ld false 1 (.t 41))),none,248⟩,
⟨(some 43),(.x (.call (.c (.fn 42 [] [])) [(.t 42)])),none,504⟩,
⟨(some 44),(.q (.iaddr (.slice 6) (.t 35) (.t 36))),none,1023⟩,
⟨(some 45),(.q (.faddr 4 (.t 44))),none,2047⟩,
⟨none,(.x (.st 1 (.t 45) (.t 43))),none,4095⟩])
(.drw [⟨(some 46),(.q (.faddr 1 (.t 4))),none,0⟩,
⟨(some 47),(.q (.ld false 1 (.t 46))),none,1⟩,
⟨(some 48),(.q (.mv (.t 5))),none,0⟩,
⟨(some 49),(.q (.faddr 1 (.t 4))),none,0⟩,
⟨(some 50),(.q (.ld false 1 (.t 49))),none,8⟩,
⟨(some 51),(.q (.mv (.t 5))),none,0⟩,
⟨(some 52),(.q (.iaddr (.slice 6) (.t 50) (.t 51))),none,56⟩,
⟨(some 53),(.q (.faddr 5 (.t 52))),none,120⟩,
⟨(some 54),(.q (.ld false 1 (.t 53))),none,248⟩,
⟨(some 55),(.x (.call (.c (.fn 42 [] [])) [(.t 54)])),none,504⟩,
⟨(some 56),(.q (.iaddr (.slice 6) (.t 47) (.t 48))),none,1023⟩,
⟨(some 57),(.q (.faddr 5 (.t 56))),none,2047⟩,
⟨none,(.x (.st 1 (.t 57) (.t 55))),none,4095⟩]))))
(.reg [⟨(some 58),(.q (.bin .add (.p .int) (.t 31) (.c (.int .i64 (.ofNat 1))))),none,0⟩,
⟨(some 31),(.q (.mv (.t 58))),none,0⟩])))))))
(.seq (.reg [⟨(some 59),(.q (.ld true 3 (.t 4))),none,0⟩,
⟨none,(.x (.st 3 (.t 2) (.t 59))),none,0⟩,
⟨(some 3),(.q (.mv (.c (.int .i64 (.ofNat 0))))),none,0⟩])
.ret))))))))⟩
theorem row19 : Row Tryd.prog (19, a19) := ⟨Tryd.f19, Tryd.func19, by kernel_rfl⟩
noncomputable def a20 : AFn :=
⟨11,[(.t 2)],(.seq (.reg [⟨(some 1),(.a (.box 32 (.t 0))),none,0⟩,
⟨(some 2),(.q (.mv (.c (.int .i64 (.ofNat 0))))),none,0⟩])
(.seq (.reg [⟨(some 6),(.q (.ld true 3 (.t 1))),none,0⟩,
⟨(some 7),(.x (.call (.c (.fn 19 [] [])) [(.t 6)])),none,0⟩,
⟨(some 5),(.q (.mv (.t 7))),none,0⟩,
⟨(some 8),(.q (.extract (.t 5) 0)),none,0⟩,
⟨(some 9),(.q (.extract (.t 5) 1)),none,0⟩,
⟨(some 3),(.a (.alloc 25 [(.int .i64 (.ofNat 0)),.nilsl,.nilsl])),none,0⟩,
⟨none,(.x (.st 3 (.t 3) (.t 8))),none,0⟩,
⟨(some 4),(.q (.mv (.t 9))),none,0⟩])
(.seq (.reg [⟨(some 10),(.q (.mv (.t 4))),none,0⟩,
⟨(some 2),(.q (.mv (.t 10))),none,0⟩])
.ret)))⟩
theorem row20 : Row Tryd.prog (20, a20) := ⟨Tryd.f20, Tryd.func20, by kernel_rfl⟩
noncomputable def a21 : AFn :=
⟨19,[(.cell 0 true 3)],(.seq (.reg [⟨(some 0),(.a (.alloc 25 [(.int .i64 (.ofNat 0)),.nilsl,.nilsl])),none,0⟩])
(.seq (.reg [⟨(some 2),(.a (.bslice 3 1 2 [(.int .i64 (.ofNat 0))] [(0,(.c (.int .i64 (.ofNat 1)))),(1,(.c (.int .i64 (.ofNat 1))))])),none,0⟩,
⟨(some 1),(.q (.mv (.t 2))),none,0⟩])
(.seq (.reg [⟨(some 3),(.a (.bslice 3 1 3 [(.int .i64 (.ofNat 0))] [(0,(.c (.int .i64 (.ofNat 1)))),(1,(.c (.int .i64 (.ofNat 2)))),(2,(.c (.int .i64 (.ofNat 1))))])),none,0⟩,
⟨(some 4),(.a (.bslice 3 1 3 [(.int .i64 (.ofNat 0))] [(0,(.c (.int .i64 (.ofNat 1)))),(1,(.c (.int .i64 (.ofNat 2)))),(2,(.c (.int .i64 (.ofNat 5))))])),none,0⟩,
⟨(some 5),(.x (.call (.c (.fn 43 [] [])) [(.t 3),(.t 4)])),none,0⟩,
⟨(some 6),(.x (.call (.c (.fn 44 [] [])) [(.c (.int .i64 (.ofNat 5)))])),none,0⟩,
⟨(some 7),(.q (.mv (.t 1))),none,0⟩,
⟨(some 8),(.a (.bslice 3 1 2 [(.int .i64 (.ofNat 0))] [(0,(.c (.int .i64 (.ofNat 3)))),(1,(.c (.int .i64 (.ofNat 4))))])),none,0⟩,
⟨(some 9),(.x (.call (.c (.fn 43 [] [])) [(.t 7),(.t 8)])),none,0⟩,
⟨(some 10),(.x (.call (.c (.fn 44 [] [])) [(.c (.int .i64 (.ofNat 5)))])),none,0⟩,
⟨(some 11),(.x (.call (.c (.fn 44 [] [])) [(.c (.int .i64 (.ofNat 7)))])),none,0⟩,
⟨(some 12),(.q (.mv (.t 1))),none,0⟩,
⟨(some 13),(.a (.bslice 3 1 2 [(.int .i64 (.ofNat 0))] [(0,(.c (.int .i64 (.ofNat 6)))),(1,(.c (.int .i64 (.ofNat 7))))])),none,0⟩,
⟨(some 14),(.x (.call (.c (.fn 43 [] [])) [(.t 12),(.t 13)])),none,0⟩,
⟨(some 15),(.x (.call (.c (.fn 44 [] [])) [(.c (.int .i64 (.ofNat 5)))])),none,0⟩,
⟨(some 16),(.x (.call (.c (.fn 44 [] [])) [(.c (.int .i64 (.ofNat 7)))])),none,0⟩,
⟨(some 17),(.a (.bslice 51 6 8 [(.int .i64 (.ofNat 0)),(.int .i64 (.ofNat 0)),(.int .i64 (.ofNat 0)),.nilsl,.nilsl,.nilsl] [(0,(.t 5)),(1,(.t 6)),(2,(.t 9)),(3,(.t 10)),(4,(.t 11)),(5,(.t 14)),(6,(.t 15)),(7,(.t 16))])),none,0⟩,
⟨(some 18),(.q (.build [(.int .i64 (.ofNat 0)),.nilsl,.nilsl] [(0,1,(.c (.int .i64 (.ofNat 1)))),(1,1,(.t 17))])),none,0⟩,
⟨none,(.x (.st 3 (.t 0) (.t 18))),none,0⟩])
.ret)))⟩
theorem row21 : Row Tryd.prog (21, a21) := ⟨Tryd.f21, Tryd.func21, by kernel_rfl⟩
noncomputable def a22 : AFn :=
⟨49,[(.t 2),(.t 3)],(.seq (.reg [⟨(some 1),(.a (.box 32 (.t 0))),none,0⟩,
⟨(some 2),(.q (.mv (.c .nilsl))),none,0⟩,
⟨(some 3),(.q (.mv (.c (.int .i64 (.ofNat 0))))),none,0⟩])
(.seq (.seq (.reg [⟨(some 10),(.q (.ld true 3 (.t 1))),none,0⟩,
⟨(some 11),(.x (.call (.c (.fn 20 [] [])) [(.t 10)])),none,0⟩,
⟨(some 4),(.q (.mv (.t 11))),none,0⟩])
(.seq (.reg [⟨(some 12),(.q (.mv (.t 4))),none,0⟩,
⟨(some 13),(.q (.bin .neq (.p .int) (.t 12) (.c (.int .i64 (.ofNat 0))))),none,0⟩])
(.cond (.t 13) (.seq (.reg [⟨(some 14),(.q (.mv (.t 4))),none,0⟩,
⟨(some 2),(.q (.mv (.c .nilsl))),none,0⟩,
⟨(some 3),(.q (.mv (.t 14))),none,0⟩])
.ret) .skip)))
(.seq (.reg [⟨(some 15),(.q (.faddr 1 (.t 1))),none,0⟩,
⟨(some 16),(.q (.ld false 1 (.t 15))),none,0⟩,
⟨(some 17),(.q (.lenSl (.t 16))),none,0⟩,
⟨(some 18),(.a (.mkSlice 3 1 8 [(.int .i64 (.ofNat 0))] (.t 17) (.t 17))),none,0⟩,
⟨(some 5),(.q (.mv (.t 18))),none,0⟩])
(.seq (.reg [⟨(some 19),(.q (.mv (.t 5))),none,0⟩,
⟨(some 20),(.q (.iaddr (.slice 1) (.t 19) (.c (.int .i64 (.ofNat 0))))),none,0⟩,
⟨none,(.x (.st 1 (.t 20) (.c (.int .i64 (.ofNat 1))))),none,0⟩])
(.seq (.seq (.reg [⟨(some 21),(.q (.faddr 1 (.t 1))),none,0⟩,
⟨(some 22),(.q (.ld false 1 (.t 21))),none,0⟩,
⟨(some 23),(.q (.lenSl (.t 22))),none,0⟩,
⟨(some 24),(.q (.mv (.c (.int .i64 (.ofNat 0))))),none,0⟩])
(.block 0 (.loop (.seq (.reg [⟨(some 25),(.q (.bin .lss (.p .int) (.t 24) (.t 23))),none,0⟩])
(.seq (.cond (.t 25) .skip (.exit 0))
(.seq (.block 1 (.seq (.reg [⟨(some 26),(.q (.mv (.t 24))),none,0⟩,
⟨(some 27),(.q (.iaddr (.slice 6) (.t 22) (.t 24))),none,0⟩,
⟨(some 28),(.q (.ld true 6 (.t 27))),none,0⟩,
⟨(some 7),(.a (.alloc 51 [(.int .i64 (.ofNat 0)),(.int .i64 (.ofNat 0)),(.int .i64 (.ofNat 0)),.nilsl,.nilsl,.nilsl])),none,0⟩,
⟨(some 6),(.q (.mv (.t 26))),none,0⟩,
⟨none,(.x (.st 6 (.t 7) (.t 28))),none,0⟩])
(.seq (.reg [⟨(some 29),(.q (.faddr 3 (.t 7))),none,0⟩,
⟨(some 30),(.q (.ld false 1 (.t 29))),none,0⟩,
⟨(some 31),(.q (.lenSl (.t 30))),none,0⟩,
⟨(some 32),(.q (.mv (.c (.int .i64 (.ofNat 0))))),none,0⟩])
(.block 2 (.loop (.seq (.reg [⟨(some 33),(.q (.bin .lss (.p .int) (.t 32) (.t 31))),none,0⟩])
(.seq (.cond (.t 33) .skip (.exit 2))
(.seq (.block 3 (.seq (.reg [⟨(some 34),(.q (.iaddr (.slice 1) (.t 30) (.t 32))),none,0⟩,
⟨(some 35),(.q (.ld false 1 (.t 34))),none,0⟩,
⟨(some 9),(.q (.mv (.t 35))),none,0⟩])
(.drw [⟨(some 36),(.q (.mv (.t 5))),none,0⟩,
⟨(some 37),(.q (.mv (.t 9))),none,0⟩,
⟨(some 38),(.q (.iaddr (.slice 1) (.t 36) (.t 37))),none,3⟩,
⟨(some 39),(.q (.ld false 1 (.t 38))),none,7⟩,
⟨(some 40),(.q (.mv (.t 5))),none,0⟩,
⟨(some 41),(.q (.mv (.t 6))),none,0⟩,
⟨(some 42),(.q (.iaddr (.slice 1) (.t 40) (.t 41))),none,48⟩,
⟨(some 43),(.q (.ld false 1 (.t 42))),none,112⟩,
⟨(some 44),(.q (.bin .add (.p .int) (.t 39) (.t 43))),none,255⟩,
⟨(some 45),(.q (.iaddr (.slice 1) (.t 36) (.t 37))),none,511⟩,
⟨none,(.x (.st 1 (.t 45) (.t 44))),none,1023⟩])))
(.reg [⟨(some 46),(.q (.bin .add (.p .int) (.t 32) (.c (.int .i64 (.ofNat 1))))),none,0⟩,
⟨(some 32),(.q (.mv (.t 46))),none,0⟩])))))))))
(.reg [⟨(some 47),(.q (.bin .add (.p .int) (.t 24) (.c (.int .i64 (.ofNat 1))))),none,0⟩,
⟨(some 24),(.q (.mv (.t 47))),none,0⟩])))))))
(.seq (.reg [⟨(some 48),(.q (.mv (.t 5))),none,0⟩,
⟨(some 2),(.q (.mv (.t 48))),none,0⟩,
⟨(some 3),(.q (.mv (.c (.int .i64 (.ofNat 0))))),none,0⟩])
.ret))))))⟩
theorem row22 : Row Tryd.prog (22, a22) := ⟨Tryd.f22, Tryd.func22, by kernel_rfl⟩
noncomputable def a23 : AFn :=
⟨11,[(.cell 0 true 3)],(.seq (.reg [⟨(some 0),(.a (.alloc 32 [(.int .i64 (.ofNat 0)),.nilsl,.nilsl])),none,0⟩])
(.seq (.reg [⟨(some 1),(.a (.bslice 3 1 3 [(.int .i64 (.ofNat 0))] [(0,(.c (.int .i64 (.ofNat 1)))),(1,(.c (.int .i64 (.ofNat 2)))),(2,(.c (.int .i64 (.ofNat 1))))])),none,0⟩,
⟨(some 2),(.a (.bslice 3 1 3 [(.int .i64 (.ofNat 0))] [(0,(.c (.int .i64 (.ofNat 2)))),(1,(.c (.int .i64 (.ofNat 1)))),(2,(.c (.int .i64 (.ofNat 1))))])),none,0⟩,
⟨(some 3),(.x (.call (.c (.fn 43 [] [])) [(.t 1),(.t 2)])),none,0⟩,
⟨(some 4),(.a (.bslice 3 1 2 [(.int .i64 (.ofNat 0))] [(0,(.c (.int .i64 (.ofNat 1)))),(1,(.c (.int .i64 (.ofNat 1))))])),none,0⟩,
⟨(some 5),(.a (.bslice 3 1 2 [(.int .i64 (.ofNat 0))] [(0,(.c (.int .i64 (.ofNat 2)))),(1,(.c (.int .i64 (.ofNat 3))))])),none,0⟩,
⟨(some 6),(.x (.call (.c (.fn 43 [] [])) [(.t 4),(.t 5)])),none,0⟩,
⟨(some 7),(.x (.call (.c (.fn 44 [] [])) [(.c (.int .i64 (.ofNat 5)))])),none,0⟩,
⟨(some 8),(.x (.call (.c (.fn 44 [] [])) [(.c (.int .i64 (.ofNat 7)))])),none,0⟩,
⟨(some 9),(.a (.bslice 51 6 4 [(.int .i64 (.ofNat 0)),(.int .i64 (.ofNat 0)),(.int .i64 (.ofNat 0)),.nilsl,.nilsl,.nilsl] [(0,(.t 3)),(1,(.t 6)),(2,(.t 7)),(3,(.t 8))])),none,0⟩,
⟨(some 10),(.q (.build [(.int .i64 (.ofNat 0)),.nilsl,.nilsl] [(0,1,(.c (.int .i64 (.ofNat 1)))),(1,1,(.t 9))])),none,0⟩,
⟨none,(.x (.st 3 (.t 0) (.t 10))),none,0⟩])
.ret))⟩
theorem row23 : Row Tryd.prog (23, a23) := ⟨Tryd.f23, Tryd.func23, by kernel_rfl⟩
noncomputable def a24 : AFn :=
⟨15,[(.t 2),(.t 3)],(.seq (.reg [⟨(some 1),(.a (.box 32 (.t 0))),none,0⟩,
⟨(some 2),(.q (.mv (.c (.int .i64 (.ofNat 0))))),none,0⟩,
⟨(some 3),(.q (.mv (.c (.int .i64 (.ofNat 0))))),none,0⟩])
(.seq (.reg [⟨(some 7),(.q (.ld true 3 (.t 1))),none,0⟩,
⟨(some 8),(.x (.call (.c (.fn 19 [] [])) [(.t 7)])),none,0⟩,
⟨(some 6),(.q (.mv (.t 8))),none,0⟩,
⟨(some 9),(.q (.extract (.t 6) 0)),none,0⟩,
⟨(some 10),(.q (.extract (.t 6) 1)),none,0⟩,
⟨(some 4),(.a (.alloc 25 [(.int .i64 (.ofNat 0)),.nilsl,.nilsl])),none,0⟩,
⟨none,(.x (.st 3 (.t 4) (.t 9))),none,0⟩,
⟨(some 5),(.q (.mv (.t 10))),none,0⟩])
(.seq (.reg [⟨(some 11),(.q (.faddr 1 (.t 4))),none,0⟩,
⟨(some 12),(.q (.ld false 1 (.t 11))),none,0⟩,
⟨(some 13),(.q (.lenSl (.t 12))),none,0⟩,
⟨(some 14),(.q (.mv (.t 5))),none,0⟩,
⟨(some 2),(.q (.mv (.t 13))),none,0⟩,
⟨(some 3),(.q (.mv (.t 14))),none,0⟩])
.ret)))⟩
theorem row24 : Row Tryd.prog (24, a24) := ⟨Tryd.f24, Tryd.func24, by kernel_rfl⟩
noncomputable def a25 : AFn :=
⟨11,[(.t 2)],(.seq (.reg [⟨(some 1),(.a (.box 25 (.t 0))),none,0⟩,
⟨(some 2),(.q (.mv (.c (.int .i64 (.ofNat 0))))),none,0⟩])
(.seq (.reg [⟨(some 6),(.q (.ld true 3 (.t 1))),none,0⟩,
⟨(some 7),(.x (.call (.c (.fn 45 [] [])) [(.t 6)])),none,0⟩,
⟨(some 5),(.q (.mv (.t 7))),none,0⟩,
⟨(some 8),(.q (.extract (.t 5) 0)),none,0⟩,
⟨(some 9),(.q (.extract (.t 5) 1)),none,0⟩,
⟨(some 3),(.q (.mv (.t 8))),none,0⟩,
⟨(some 4),(.q (.mv (.t 9))),none,0⟩])
(.seq (.reg [⟨(some 10),(.q (.mv (.t 4))),none,0⟩,
⟨(some 2),(.q (.mv (.t 10))),none,0⟩])
.ret)))⟩
theorem row25 : Row Tryd.prog (25, a25) := ⟨Tryd.f25, Tryd.func25, by kernel_rfl⟩
noncomputable def a26 : AFn :=
⟨31,[(.t 2)],(.seq (.reg [⟨(some 1),(.a (.box 25 (.t 0))),none,0⟩,
⟨(some 2),(.q (.mv (.c .nilsl))),none,0⟩])
(.seq (.reg [⟨(some 7),(.q (.faddr 1 (.t 1))),none,0⟩,
⟨(some 8),(.q (.ld false 1 (.t 7))),none,0⟩,
⟨(some 9),(.q (.lenSl (.t 8))),none,0⟩,
⟨(some 10),(.a (.mkSlice 3 1 8 [(.int .i64 (.ofNat 0))] (.t 9) (.t 9))),none,0⟩,
⟨(some 3),(.a (.alloc 28 [.nilsl])),none,0⟩,
⟨none,(.x (.st 1 (.t 3) (.t 10))),none,0⟩])
(.seq (.seq (.reg [⟨(some 11),(.q (.ld false 1 (.t 3))),none,0⟩,
⟨(some 12),(.q (.lenSl (.t 11))),none,0⟩,
⟨(some 13),(.q (.mv (.c (.int .i64 (.ofNat 0))))),none,0⟩])
(.block 0 (.loop (.seq (.reg [⟨(some 14),(.q (.bin .lss (.p .int) (.t 13) (.t 12))),none,0⟩])
(.seq (.cond (.t 14) .skip (.exit 0))
(.seq (.block 1 (.seq (.reg [⟨(some 15),(.q (.mv (.t 13))),none,0⟩,
⟨(some 4),(.q (.mv (.t 15))),none,0⟩])
(.reg [⟨(some 16),(.q (.ld false 1 (.t 3))),none,0⟩,
⟨(some 17),(.q (.mv (.t 4))),none,0⟩,
⟨(some 18),(.q (.iaddr (.slice 1) (.t 16) (.t 17))),none,0⟩,
⟨none,(.x (.st 1 (.t 18) (.c (.int .i64 (.negSucc 0))))),none,0⟩])))
(.reg [⟨(some 19),(.q (.bin .add (.p .int) (.t 13) (.c (.int .i64 (.ofNat 1))))),none,0⟩,
⟨(some 13),(.q (.mv (.t 19))),none,0⟩])))))))
(.seq (.reg [⟨(some 5),(.a (.alloc 71 [.nilfn])),none,0⟩])
(.seq (.reg [⟨(some 20),(.q (.mkFunc 46 [] [(.t 3),(.t 1),(.t 5)])),none,0⟩,
⟨none,(.x (.st 1 (.t 5) (.t 20))),none,0⟩])
(.seq (.seq (.reg [⟨(some 21),(.q (.ld false 1 (.t 3))),none,0⟩,
⟨(some 22),(.q (.lenSl (.t 21))),none,0⟩,
⟨(some 23),(.q (.mv (.c (.int .i64 (.ofNat 0))))),none,0⟩])
(.block 2 (.loop (.seq (.reg [⟨(some 24),(.q (.bin .lss (.p .int) (.t 23) (.t 22))),none,0⟩])
(.seq (.cond (.t 24) .skip (.exit 2))
(.seq (.block 3 (.seq (.reg [⟨(some 25),(.q (.mv (.t 23))),none,0⟩,
⟨(some 6),(.q (.mv (.t 25))),none,0⟩])
(.reg [⟨(some 26),(.q (.ld false 1 (.t 5))),none,0⟩,
⟨(some 27),(.q (.mv (.t 6))),none,0⟩,
⟨(some 28),(.x (.call (.t 26) [(.t 27)])),none,0⟩])))
(.reg [⟨(some 29),(.q (.bin .add (.p .int) (.t 23) (.c (.int .i64 (.ofNat 1))))),none,0⟩,
⟨(some 23),(.q (.mv (.t 29))),none,0⟩])))))))
(.seq (.reg [⟨(some 30),(.q (.ld false 1 (.t 3))),none,0⟩,
⟨(some 2),(.q (.mv (.t 30))),none,0⟩])
.ret)))))))⟩
theorem row26 : Row Tryd.prog (26, a26) := ⟨Tryd.f26, Tryd.func26, by kernel_rfl⟩
noncomputable def a29 : AFn :=
⟨122,[(.t 2),(.t 3)],(.seq (.reg [⟨(some 1),(.a (.box 25 (.t 0))),none,0⟩,
⟨(some 2),(.q (.mv (.c .nilsl))),none,0⟩,
⟨(some 3),(.q (.mv (.c .nilsl))),none,0⟩])
(.seq (.reg [⟨(some 19),(.a (.mkMap)),none,0⟩,
⟨(some 4),(.q (.mv (.t 19))),none,0⟩])
(.seq (.reg [⟨(some 20),(.q (.faddr 1 (.t 1))),none,0⟩,
⟨(some 21),(.q (.ld false 1 (.t 20))),none,0⟩,
⟨(some 22),(.q (.lenSl (.t 21))),none,0⟩,
⟨(some 23),(.a (.mkSlice 3 1 8 [(.int .i64 (.ofNat 0))] (.t 22) (.t 22))),none,0⟩,
⟨(some 5),(.q (.mv (.t 23))),none,0⟩])
(.seq (.seq (.reg [⟨(some 24),(.q (.faddr 1 (.t 1))),none,0⟩,
⟨(some 25),(.q (.ld false 1 (.t 24))),none,0⟩,
⟨(some 26),(.q (.lenSl (.t 25))),none,0⟩,
⟨(some 27),(.q (.bin .sub (.p .int) (.t 26) (.c (.int .i64 (.ofNat 1))))),none,0⟩,
⟨(some 6),(.q (.mv (.t 27))),none,0⟩])
(.block 0 (.loop (.seq (.seq (.reg [⟨(some 28),(.q (.mv (.t 6))),none,0⟩,
⟨(some 29),(.q (.bin .geq (.p .int) (.t 28) (.c (.int .i64 (.ofNat 0))))),none,0⟩])
(.cond (.t 29) .skip (.exit 0)))
(.seq (.block 1 (.seq (.reg [⟨(some 32),(.q (.faddr 1 (.t 1))),none,0⟩,
⟨(some 33),(.q (.ld false 1 (.t 32))),none,0⟩,
⟨(some 34),(.q (.mv (.t 6))),none,0⟩,
⟨(some 35),(.q (.iaddr (.slice 6) (.t 33) (.t 34))),none,0⟩,
⟨(some 36),(.q (.ld true 6 (.t 35))),none,0⟩,
⟨(some 37),(.q (.mv (.t 5))),none,0⟩,
⟨(some 38),(.x (.call (.c (.fn 50 [] [])) [(.t 36),(.t 37)])),none,0⟩,
⟨(some 7),(.q (.mv (.t 38))),none,0⟩])
(.seq (.reg [⟨(some 40),(.q (.mv (.t 4))),none,0⟩,
⟨(some 41),(.q (.mv (.t 7))),none,0⟩,
⟨(some 42),(.q (.lookup (.p .str) (.int .i64 (.ofNat 0)) true (.t 40) (.t 41))),none,0⟩,
⟨(some 39),(.q (.mv (.t 42))),none,0⟩,
⟨(some 43),(.q (.extract (.t 39) 0)),none,0⟩,
⟨(some 44),(.q (.extract (.t 39) 1)),none,0⟩,
⟨(some 8),(.q (.mv (.t 43))),none,0⟩,
⟨(some 9),(.q (.mv (.t 44))),none,0⟩])
(.seq (.seq (.reg [⟨(some 45),(.q (.mv (.t 9))),none,0⟩,
⟨(some 46),(.q (.un .not (.t 45))),none,0⟩])
(.cond (.t 46) (.seq (.reg [⟨(some 47),(.q (.mv (.t 4))),none,0⟩,
⟨(some 48),(.q (.lenMap (.t 47))),none,0⟩,
⟨(some 8),(.q (.mv (.t 48))),none,0⟩])
(.reg [⟨(some 49),(.q (.mv (.t 4))),none,0⟩,
⟨(some 50),(.q (.mv (.t 7))),none,0⟩,
⟨(some 51),(.q (.mv (.t 8))),none,0⟩,
⟨none,(.x (.mapUpd (.p .str) (.t 49) (.t 50) (.t 51))),none,0⟩])) .skip))
(.reg [⟨(some 52),(.q (.mv (.t 5))),none,0⟩,
⟨(some 53),(.q (.mv (.t 6))),none,0⟩,
⟨(some 54),(.q (.mv (.t 8))),none,0⟩,
⟨(some 55),(.q (.iaddr (.slice 1) (.t 52) (.t 53))),none,0⟩,
⟨none,(.x (.st 1 (.t 55) (.t 54))),none,0⟩])))))
(.reg [⟨(some 30),(.q (.mv (.t 6))),none,0⟩,
⟨(some 31),(.q (.bin .sub (.p .int) (.t 30) (.c (.int .i64 (.ofNat 1))))),none,0⟩,
⟨(some 6),(.q (.mv (.t 31))),none,0⟩]))))))
(.seq (.reg [⟨(some 56),(.q (.mv (.t 4))),none,0⟩,
⟨(some 57),(.q (.lenMap (.t 56))),none,0⟩,
⟨(some 58),(.a (.mkSlice 4 1 1 [(.bool false)] (.t 57) (.t 57))),none,0⟩,
⟨(some 10),(.q (.mv (.t 58))),none,0⟩])
(.seq (.seq (.reg [⟨(some 59),(.q (.mv (.t 5))),none,0⟩,
⟨(some 60),(.q (.lenSl (.t 59))),none,0⟩,
⟨(some 61),(.q (.mv (.c (.int .i64 (.ofNat 0))))),none,0⟩])
(.block 2 (.loop (.seq (.reg [⟨(some 62),(.q (.bin .lss (.p .int) (.t 61) (.t 60))),none,0⟩])
(.seq (.cond (.t 62) .skip (.exit 2))
(.seq (.block 3 (.seq (.reg [⟨(some 63),(.q (.mv (.t 61))),none,0⟩,
⟨(some 64),(.q (.iaddr (.slice 1) (.t 59) (.t 61))),none,0⟩,
⟨(some 65),(.q (.ld false 1 (.t 64))),none,0⟩,
⟨(some 11),(.q (.mv (.t 63))),none,0⟩,
⟨(some 12),(.q (.mv (.t 65))),none,0⟩])
(.seq (.reg [⟨(some 66),(.q (.mv (.t 10))),none,0⟩,
⟨(some 67),(.q (.mv (.t 12))),none,0⟩,
⟨(some 68),(.q (.iaddr (.slice 1) (.t 66) (.t 67))),none,0⟩,
⟨(some 69),(.q (.ld false 1 (.t 68))),none,0⟩,
⟨(some 70),(.q (.un .not (.t 69))),none,0⟩])
(.cond (.t 70) (.seq (.reg [⟨(some 71),(.q (.mv (.t 10))),none,0⟩,
⟨(some 72),(.q (.mv (.t 12))),none,0⟩,
⟨(some 73),(.q (.iaddr (.slice 1) (.t 71) (.t 72))),none,0⟩,
⟨none,(.x (.st 1 (.t 73) (.c (.bool true)))),none,0⟩])
(.reg [⟨(some 74),(.q (.mv (.t 3))),none,0⟩,
⟨(some 75),(.q (.mv (.t 11))),none,0⟩,
⟨(some 76),(.a (.bslice 3 1 1 [(.int .i64 (.ofNat 0))] [(0,(.t 75))])),none,0⟩,
⟨(some 77),(.x (.app 3 1 8 (.t 74) (.t 76))),none,0⟩,
⟨(some 3),(.q (.mv (.t 77))),none,0⟩])) .skip))))
(.reg [⟨(some 78),(.q (.bin .add (.p .int) (.t 61) (.c (.int .i64 (.ofNat 1))))),none,0⟩,
⟨(some 61),(.q (.mv (.t 78))),none,0⟩])))))))
(.seq (.reg [⟨(some 79),(.q (.ld true 3 (.t 1))),none,0⟩,
⟨(some 80),(.x (.call (.c (.fn 26 [] [])) [(.t 79)])),none,0⟩,
⟨(some 13),(.a (.alloc 28 [.nilsl])),none,0⟩,
⟨none,(.x (.st 1 (.t 13) (.t 80))),none,0⟩])
(.seq (.reg [⟨(some 81),(.q (.mv (.t 3))),none,0⟩,
⟨(some 82),(.q (.mkFunc 52 [] [(.t 13)])),none,0⟩,
⟨(some 83),(.x (.call (.c (.fn 51 [] [])) [(.t 81),(.t 82)])),none,0⟩])
(.seq (.reg [⟨(some 84),(.q (.mv (.t 4))),none,0⟩,
⟨(some 85),(.q (.lenMap (.t 84))),none,0⟩,
⟨(some 86),(.a (.mkSlice 3 1 8 [(.int .i64 (.ofNat 0))] (.t 85) (.t 85))),none,0⟩,
⟨(some 14),(.q (.mv (.t 86))),none,0⟩])
(.seq (.seq (.reg [⟨(some 87),(.q (.mv (.t 3))),none,0⟩,
⟨(some 88),(.q (.lenSl (.t 87))),none,0⟩,
⟨(some 89),(.q (.mv (.c (.int .i64 (.ofNat 0))))),none,0⟩])
(.block 4 (.loop (.seq (.reg [⟨(some 90),(.q (.bin .lss (.p .int) (.t 89) (.t 88))),none,0⟩])
(.seq (.cond (.t 90) .skip (.exit 4))
(.seq (.block 5 (.seq (.reg [⟨(some 91),(.q (.mv (.t 89))),none,0⟩,
⟨(some 92),(.q (.iaddr (.slice 1) (.t 87) (.t 89))),none,0⟩,
⟨(some 93),(.q (.ld false 1 (.t 92))),none,0⟩,
⟨(some 15),(.q (.mv (.t 91))),none,0⟩,
⟨(some 16),(.q (.mv (.t 93))),none,0⟩])
(.reg [⟨(some 94),(.q (.mv (.t 14))),none,0⟩,
⟨(some 95),(.q (.mv (.t 5))),none,0⟩,
⟨(some 96),(.q (.mv (.t 16))),none,0⟩,
⟨(some 97),(.q (.iaddr (.slice 1) (.t 95) (.t 96))),none,0⟩,
⟨(some 98),(.q (.ld false 1 (.t 97))),none,0⟩,
⟨(some 99),(.q (.mv (.t 15))),none,0⟩,
⟨(some 100),(.q (.iaddr (.slice 1) (.t 94) (.t 98))),none,0⟩,
⟨none,(.x (.st 1 (.t 100) (.t 99))),none,0⟩])))
(.reg [⟨(some 101),(.q (.bin .add (.p .int) (.t 89) (.c (.int .i64 (.ofNat 1))))),none,0⟩,
⟨(some 89),(.q (.mv (.t 101))),none,0⟩])))))))
(.seq (.reg [⟨(some 102),(.q (.mv (.t 5))),none,0⟩,
⟨(some 103),(.q (.lenSl (.t 102))),none,0⟩,
⟨(some 104),(.a (.mkSlice 3 1 8 [(.int .i64 (.ofNat 0))] (.t 103) (.t 103))),none,0⟩,
⟨(some 2),(.q (.mv (.t 104))),none,0⟩])
(.seq (.seq (.reg [⟨(some 105),(.q (.mv (.t 5))),none,0⟩,
⟨(some 106),(.q (.lenSl (.t 105))),none,0⟩,
⟨(some 107),(.q (.mv (.c (.int .i64 (.ofNat 0))))),none,0⟩])
(.block 6 (.loop (.seq (.reg [⟨(some 108),(.q (.bin .lss (.p .int) (.t 107) (.t 106))),none,0⟩])
(.seq (.cond (.t 108) .skip (.exit 6))
(.seq (.block 7 (.seq (.reg [⟨(some 109),(.q (.mv (.t 107))),none,0⟩,
⟨(some 110),(.q (.iaddr (.slice 1) (.t 105) (.t 107))),none,0⟩,
⟨(some 111),(.q (.ld false 1 (.t 110))),none,0⟩,
⟨(some 17),(.q (.mv (.t 109))),none,0⟩,
⟨(some 18),(.q (.mv (.t 111))),none,0⟩])
(.reg [⟨(some 112),(.q (.mv (.t 2))),none,0⟩,
⟨(some 113),(.q (.mv (.t 17))),none,0⟩,
⟨(some 114),(.q (.mv (.t 14))),none,0⟩,
⟨(some 115),(.q (.mv (.t 18))),none,0⟩,
⟨(some 116),(.q (.iaddr (.slice 1) (.t 114) (.t 115))),none,0⟩,
⟨(some 117),(.q (.ld false 1 (.t 116))),none,0⟩,
⟨(some 118),(.q (.iaddr (.slice 1) (.t 112) (.t 113))),none,0⟩,
⟨none,(.x (.st 1 (.t 118) (.t 117))),none,0⟩])))
(.reg [⟨(some 119),(.q (.bin .add (.p .int) (.t 107) (.c (.int .i64 (.ofNat 1))))),none,0⟩,
⟨(some 107),(.q (.mv (.t 119))),none,0⟩])))))))
(.seq (.reg [⟨(some 120),(.q (.mv (.t 2))),none,0⟩,
⟨(some 121),(.q (.mv (.t 3))),none,0⟩,
⟨(some 2),(.q (.mv (.t 120))),none,0⟩,
⟨(some 3),(.q (.mv (.t 121))),none,0⟩])
.ret)))))))))))))⟩
theorem row29 : Row Tryd.prog (29, a29) := ⟨Tryd.f29, Tryd.func29, by kernel_rfl⟩
noncomputable def a31 : AFn :=
⟨71,[(.cell 2 true 3)],(.seq (.reg [⟨(some 1),(.a (.box 25 (.t 0))),none,0⟩,
⟨(some 2),(.a (.alloc 32 [(.int .i64 (.ofNat 0)),.nilsl,.nilsl])),none,0⟩])
(.seq (.reg [⟨(some 12),(.q (.ld true 3 (.t 1))),none,0⟩,
⟨(some 13),(.x (.call (.c (.fn 29 [] [])) [(.t 12)])),none,0⟩,
⟨(some 11),(.q (.mv (.t 13))),none,0⟩,
⟨(some 14),(.q (.extract (.t 11) 0)),none,0⟩,
⟨(some 15),(.q (.extract (.t 11) 1)),none,0⟩,
⟨(some 3),(.q (.mv (.t 14))),none,0⟩,
⟨(some 4),(.q (.mv (.t 15))),none,0⟩])
(.seq (.drw [⟨(some 16),(.q (.faddr 0 (.t 1))),none,0⟩,
⟨(some 17),(.q (.ld false 1 (.t 16))),none,1⟩,
⟨(some 18),(.q (.faddr 2 (.t 1))),none,0⟩,
⟨(some 19),(.q (.ld false 1 (.t 18))),none,4⟩,
⟨(some 20),(.x (.call (.c (.fn 56 [] [])) [(.t 19)])),none,12⟩,
⟨(some 21),(.q (.build [(.int .i64 (.ofNat 0)),.nilsl,.nilsl] [(0,1,(.t 17)),(2,1,(.t 20))])),none,31⟩,
⟨(some 5),(.a (.alloc 32 [(.int .i64 (.ofNat 0)),.nilsl,.nilsl])),none,0⟩,
⟨none,(.x (.st 3 (.t 5) (.t 21))),none,127⟩])
(.seq (.seq (.reg [⟨(some 22),(.q (.mv (.t 4))),none,0⟩,
⟨(some 23),(.q (.lenSl (.t 22))),none,0⟩,
⟨(some 24),(.q (.mv (.c (.int .i64 (.ofNat 0))))),none,0⟩])
(.block 0 (.loop (.seq (.reg [⟨(some 25),(.q (.bin .lss (.p .int) (.t 24) (.t 23))),none,0⟩])
(.seq (.cond (.t 25) .skip (.exit 0))
(.seq (.block 1 (.seq (.reg [⟨(some 26),(.q (.iaddr (.slice 1) (.t 22) (.t 24))),none,0⟩,
⟨(some 27),(.q (.ld false 1 (.t 26))),none,0⟩,
⟨(some 7),(.q (.mv (.t 27))),none,0⟩])
(.seq (.reg [⟨(some 28),(.q (.faddr 1 (.t 1))),none,0⟩,
⟨(some 29),(.q (.ld false 1 (.t 28))),none,0⟩,
⟨(some 30),(.q (.mv (.t 7))),none,0⟩,
⟨(some 31),(.q (.iaddr (.slice 6) (.t 29) (.t 30))),none,0⟩,
⟨(some 32),(.q (.ld true 6 (.t 31))),none,0⟩,
⟨(some 8),(.a (.alloc 51 [(.int .i64 (.ofNat 0)),(.int .i64 (.ofNat 0)),(.int .i64 (.ofNat 0)),.nilsl,.nilsl,.nilsl])),none,0⟩,
⟨none,(.x (.st 6 (.t 8) (.t 32))),none,0⟩])
(.seq (.drw [⟨(some 33),(.q (.faddr 4 (.t 8))),none,0⟩,
⟨(some 34),(.q (.ld false 1 (.t 33))),none,1⟩,
⟨(some 35),(.x (.call (.c (.fn 42 [] [])) [(.t 34)])),none,3⟩,
⟨(some 36),(.q (.faddr 5 (.t 8))),none,0⟩,
⟨(some 37),(.q (.ld false 1 (.t 36))),none,8⟩,
⟨(some 38),(.x (.call (.c (.fn 42 [] [])) [(.t 37)])),none,31⟩,
⟨(some 39),(.q (.faddr 4 (.t 8))),none,31⟩,
⟨none,(.x (.st 1 (.t 39) (.t 35))),none,127⟩,
⟨(some 40),(.q (.faddr 5 (.t 8))),none,255⟩,
⟨none,(.x (.st 1 (.t 40) (.t 38))),none,511⟩,
⟨(some 41),(.q (.faddr 3 (.t 8))),none,1023⟩,
⟨none,(.x (.st 1 (.t 41) (.c .nilsl))),none,2047⟩])
(.seq (.seq (.reg [⟨(some 42),(.q (.faddr 1 (.t 1))),none,0⟩,
⟨(some 43),(.q (.ld false 1 (.t 42))),none,0⟩,
⟨(some 44),(.q (.mv (.t 7))),none,0⟩,
⟨(some 45),(.q (.iaddr (.slice 6) (.t 43) (.t 44))),none,0⟩,
⟨(some 46),(.q (.faddr 3 (.t 45))),none,0⟩,
⟨(some 47),(.q (.ld false 1 (.t 46))),none,0⟩,
⟨(some 48),(.q (.lenSl (.t 47))),none,0⟩,
⟨(some 49),(.q (.mv (.c (.int .i64 (.ofNat 0))))),none,0⟩])
(.block 2 (.loop (.seq (.reg [⟨(some 50),(.q (.bin .lss (.p .int) (.t 49) (.t 48))),none,0⟩])
(.seq (.cond (.t 50) .skip (.exit 2))
(.seq (.block 3 (.seq (.reg [⟨(some 51),(.q (.iaddr (.slice 1) (.t 47) (.t 49))),none,0⟩,
⟨(some 52),(.q (.ld false 1 (.t 51))),none,0⟩,
⟨(some 10),(.q (.mv (.t 52))),none,0⟩])
(.drw [⟨(some 53),(.q (.faddr 3 (.t 8))),none,0⟩,
⟨(some 54),(.q (.ld false 1 (.t 53))),none,1⟩,
⟨(some 55),(.q (.mv (.t 3))),none,0⟩,
⟨(some 56),(.q (.mv (.t 10))),none,0⟩,
⟨(some 57),(.q (.iaddr (.slice 1) (.t 55) (.t 56))),none,12⟩,
⟨(some 58),(.q (.ld false 1 (.t 57))),none,28⟩,
⟨(some 59),(.a (.bslice 3 1 1 [(.int .i64 (.ofNat 0))] [(0,(.t 58))])),none,60⟩,
⟨(some 60),(.x (.app 3 1 8 (.t 54) (.t 59))),none,127⟩,
⟨(some 61),(.q (.faddr 3 (.t 8))),none,255⟩,
⟨none,(.x (.st 1 (.t 61) (.t 60))),none,511⟩])))
(.reg [⟨(some 62),(.q (.bin .add (.p .int) (.t 49) (.c (.int .i64 (.ofNat 1))))),none,0⟩,
⟨(some 49),(.q (.mv (.t 62))),none,0⟩])))))))
(.reg [⟨(some 63),(.q (.faddr 1 (.t 5))),none,0⟩,
⟨(some 64),(.q (.ld false 1 (.t 63))),none,0⟩,
⟨(some 65),(.q (.ld true 6 (.t 8))),none,0⟩,
⟨(some 66),(.a (.bslice 51 6 1 [(.int .i64 (.ofNat 0)),(.int .i64 (.ofNat 0)),(.int .i64 (.ofNat 0)),.nilsl,.nilsl,.nilsl] [(0,(.t 65))])),none,0⟩,
⟨(some 67),(.x (.app 51 6 96 (.t 64) (.t 66))),none,0⟩,
⟨(some 68),(.q (.faddr 1 (.t 5))),none,0⟩,
⟨none,(.x (.st 1 (.t 68) (.t 67))),none,0⟩]))))))
(.reg [⟨(some 69),(.q (.bin .add (.p .int) (.t 24) (.c (.int .i64 (.ofNat 1))))),none,0⟩,
⟨(some 24),(.q (.mv (.t 69))),none,0⟩])))))))
(.seq (.reg [⟨(some 70),(.q (.ld true 3 (.t 5))),none,0⟩,
⟨none,(.x (.st 3 (.t 2) (.t 70))),none,0⟩])
.ret)))))⟩
theorem row31 : Row Tryd.prog (31, a31) := ⟨Tryd.f31, Tryd.func31, by kernel_rfl⟩
noncomputable def a33 : AFn :=
⟨26,[(.t 4)],(.seq (.reg [⟨(some 4),(.q (.mv (.c (.bool false)))),none,0⟩])
(.seq (.seq (.reg [⟨(some 6),(.q (.mv (.t 0))),none,0⟩,
⟨(some 7),(.q (.lenSl (.t 6))),none,0⟩,
⟨(some 8),(.q (.mv (.t 1))),none,0⟩,
⟨(some 9),(.q (.lenSl (.t 8))),none,0⟩,
⟨(some 10),(.q (.bin .neq (.p .int) (.t 7) (.t 9))),none,0⟩])
(.cond (.t 10) (.seq (.reg [⟨(some 4),(.q (.mv (.c (.bool false)))),none,0⟩])
.ret) .skip))
(.seq (.seq (.reg [⟨(some 5),(.q (.mv (.c (.int .i64 (.ofNat 0))))),none,0⟩])
(.block 0 (.loop (.seq (.seq (.reg [⟨(some 11),(.q (.mv (.t 5))),none,0⟩,
⟨(some 12),(.q (.mv (.t 0))),none,0⟩,
⟨(some 13),(.q (.lenSl (.t 12))),none,0⟩,
⟨(some 14),(.q (.bin .lss (.p .int) (.t 11) (.t 13))),none,0⟩])
(.cond (.t 14) .skip (.exit 0)))
(.seq (.block 1 (.seq (.drw [⟨(some 17),(.q (.mv (.t 0))),none,0⟩,
⟨(some 18),(.q (.mv (.t 5))),none,0⟩,
⟨(some 19),(.q (.iaddr (.slice 2) (.t 17) (.t 18))),none,3⟩,
⟨(some 20),(.q (.ld true 2 (.t 19))),none,7⟩,
⟨(some 21),(.q (.mv (.t 1))),none,0⟩,
⟨(some 22),(.q (.mv (.t 5))),none,0⟩,
⟨(some 23),(.q (.iaddr (.slice 2) (.t 21) (.t 22))),none,48⟩,
⟨(some 24),(.q (.ld true 2 (.t 23))),none,112⟩,
⟨(some 25),(.q (.bin .neq (.struct [(0,.int),(1,.int)]) (.t 20) (.t 24))),none,255⟩])
(.cond (.t 25) (.seq (.reg [⟨(some 4),(.q (.mv (.c (.bool false)))),none,0⟩])
.ret) .skip)))
(.reg [⟨(some 15),(.q (.mv (.t 5))),none,0⟩,
⟨(some 16),(.q (.bin .add (.p .int) (.t 15) (.c (.int .i64 (.ofNat 1))))),none,0⟩,
⟨(some 5),(.q (.mv (.t 16))),none,0⟩]))))))
(.seq (.reg [⟨(some 4),(.q (.mv (.c (.bool true)))),none,0⟩])
.ret))))⟩
theorem row33 : Row Tryd.prog (33, a33) := ⟨Tryd.f33, Tryd.func33, by kernel_rfl⟩
noncomputable def a34 : AFn :=
⟨45,[(.t 4)],(.seq (.reg [⟨(some 2),(.a (.box 51 (.t 0))),none,0⟩,
⟨(some 3),(.a (.box 51 (.t 1))),none,0⟩,
⟨(some 4),(.q (.mv (.c (.bool false)))),none,0⟩])
(.seq (.reg [⟨(some 5),(.q (.faddr 0 (.t 2))),none,0⟩,
⟨(some 6),(.q (.ld false 1 (.t 5))),none,0⟩,
⟨(some 7),(.q (.faddr 0 (.t 3))),none,0⟩,
⟨(some 8),(.q (.ld false 1 (.t 7))),none,0⟩,
⟨(some 9),(.q (.bin .eql (.p .int) (.t 6) (.t 8))),none,0⟩,
⟨(some 10),(.q (.mv (.t 9))),none,0⟩,
⟨(some 11),(.q (.faddr 1 (.t 2))),(some (10,true)),0⟩,
⟨(some 12),(.q (.ld false 1 (.t 11))),(some (10,true)),0⟩,
⟨(some 13),(.q (.faddr 1 (.t 3))),(some (10,true)),0⟩,
⟨(some 14),(.q (.ld false 1 (.t 13))),(some (10,true)),0⟩,
⟨(some 15),(.q (.bin .eql (.p .int) (.t 12) (.t 14))),(some (10,true)),0⟩,
⟨(some 16),(.q (.pick (.t 10) (.t 15) (.c (.bool false)))),none,0⟩,
⟨(some 17),(.q (.mv (.t 16))),none,0⟩,
⟨(some 18),(.q (.faddr 2 (.t 2))),(some (17,true)),0⟩,
⟨(some 19),(.q (.ld false 1 (.t 18))),(some (17,true)),0⟩,
⟨(some 20),(.q (.faddr 2 (.t 3))),(some (17,true)),0⟩,
⟨(some 21),(.q (.ld false 1 (.t 20))),(some (17,true)),0⟩,
⟨(some 22),(.q (.bin .eql (.p .int) (.t 19) (.t 21))),(some (17,true)),0⟩,
⟨(some 23),(.q (.pick (.t 17) (.t 22) (.c (.bool false)))),none,0⟩,
⟨(some 24),(.q (.mv (.t 23))),none,0⟩,
⟨(some 25),(.q (.faddr 3 (.t 2))),(some (24,true)),0⟩,
⟨(some 26),(.q (.ld false 1 (.t 25))),(some (24,true)),0⟩,
⟨(some 27),(.q (.faddr 3 (.t 3))),(some (24,true)),0⟩,
⟨(some 28),(.q (.ld false 1 (.t 27))),(some (24,true)),0⟩,
⟨(some 29),(.x (.call (.c (.fn 14 [] [])) [(.t 26),(.t 28)])),(some (24,true)),0⟩,
⟨(some 30),(.q (.pick (.t 24) (.t 29) (.c (.bool false)))),none,0⟩,
⟨(some 31),(.q (.mv (.t 30))),none,0⟩,
⟨(some 32),(.q (.faddr 4 (.t 2))),(some (31,true)),0⟩,
⟨(some 33),(.q (.ld false 1 (.t 32))),(some (31,true)),0⟩,
⟨(some 34),(.q (.faddr 4 (.t 3))),(some (31,true)),0⟩,
⟨(some 35),(.q (.ld false 1 (.t 34))),(some (31,true)),0⟩,
⟨(some 36),(.x (.call (.c (.fn 14 [] [])) [(.t 33),(.t 35)])),(some (31,true)),0⟩,
⟨(some 37),(.q (.pick (.t 31) (.t 36) (.c (.bool false)))),none,0⟩,
⟨(some 38),(.q (.mv (.t 37))),none,0⟩,
⟨(some 39),(.q (.faddr 5 (.t 2))),(some (38,true)),0⟩,
⟨(some 40),(.q (.ld false 1 (.t 39))),(some (38,true)),0⟩,
⟨(some 41),(.q (.faddr 5 (.t 3))),(some (38,true)),0⟩,
⟨(some 42),(.q (.ld false 1 (.t 41))),(some (38,true)),0⟩,
⟨(some 43),(.x (.call (.c (.fn 14 [] [])) [(.t 40),(.t 42)])),(some (38,true)),0⟩,
⟨(some 44),(.q (.pick (.t 38) (.t 43) (.c (.bool false)))),none,0⟩,
⟨(some 4),(.q (.mv (.t 44))),none,0⟩])
.ret))⟩
theorem row34 : Row Tryd.prog (34, a34) := ⟨Tryd.f34, Tryd.func34, by kernel_rfl⟩
noncomputable def a37 : AFn :=
⟨51,[(.t 2)],(.seq (.reg [⟨(some 1),(.a (.box 32 (.t 0))),none,0⟩,
⟨(some 2),(.q (.mv (.c (.bool false)))),none,0⟩])
(.seq (.reg [⟨(some 8),(.q (.faddr 1 (.t 1))),none,0⟩,
⟨(some 9),(.q (.ld false 1 (.t 8))),none,0⟩,
⟨(some 10),(.q (.lenSl (.t 9))),none,0⟩,
⟨(some 11),(.a (.mkSlice 4 1 1 [(.bool false)] (.t 10) (.t 10))),none,0⟩,
⟨(some 3),(.q (.mv (.t 11))),none,0⟩])
(.seq (.seq (.reg [⟨(some 12),(.q (.faddr 1 (.t 1))),none,0⟩,
⟨(some 13),(.q (.ld false 1 (.t 12))),none,0⟩,
⟨(some 14),(.q (.lenSl (.t 13))),none,0⟩,
⟨(some 15),(.q (.mv (.c (.int .i64 (.ofNat 0))))),none,0⟩])
(.block 0 (.loop (.seq (.reg [⟨(some 16),(.q (.bin .lss (.p .int) (.t 15) (.t 14))),none,0⟩])
(.seq (.cond (.t 16) .skip (.exit 0))
(.seq (.block 1 (.seq (.reg [⟨(some 17),(.q (.mv (.t 15))),none,0⟩,
⟨(some 18),(.q (.iaddr (.slice 6) (.t 13) (.t 15))),none,0⟩,
⟨(some 19),(.q (.ld true 6 (.t 18))),none,0⟩,
⟨(some 5),(.a (.alloc 51 [(.int .i64 (.ofNat 0)),(.int .i64 (.ofNat 0)),(.int .i64 (.ofNat 0)),.nilsl,.nilsl,.nilsl])),none,0⟩,
⟨(some 4),(.q (.mv (.t 17))),none,0⟩,
⟨none,(.x (.st 6 (.t 5) (.t 19))),none,0⟩])
(.seq (.reg [⟨(some 20),(.q (.faddr 3 (.t 5))),none,0⟩,
⟨(some 21),(.q (.ld false 1 (.t 20))),none,0⟩,
⟨(some 22),(.q (.lenSl (.t 21))),none,0⟩,
⟨(some 23),(.q (.mv (.c (.int .i64 (.ofNat 0))))),none,0⟩])
(.block 2 (.loop (.seq (.reg [⟨(some 24),(.q (.bin .lss (.p .int) (.t 23) (.t 22))),none,0⟩])
(.seq (.cond (.t 24) .skip (.exit 2))
(.seq (.block 3 (.seq (.reg [⟨(some 25),(.q (.iaddr (.slice 1) (.t 21) (.t 23))),none,0⟩,
⟨(some 26),(.q (.ld false 1 (.t 25))),none,0⟩,
⟨(some 7),(.q (.mv (.t 26))),none,0⟩])
(.seq (.seq (.reg [⟨(some 27),(.q (.mv (.t 7))),none,0⟩,
⟨(some 28),(.q (.mv (.t 4))),none,0⟩,
⟨(some 29),(.q (.bin .leq (.p .int) (.t 27) (.t 28))),none,0⟩,
⟨(some 30),(.q (.mv (.t 29))),none,0⟩,
⟨(some 31),(.q (.mv (.t 7))),(some (30,false)),0⟩,
⟨(some 32),(.q (.faddr 1 (.t 1))),(some (30,false)),0⟩,
⟨(some 33),(.q (.ld false 1 (.t 32))),(some (30,false)),0⟩,
⟨(some 34),(.q (.lenSl (.t 33))),(some (30,false)),0⟩,
⟨(some 35),(.q (.bin .geq (.p .int) (.t 31) (.t 34))),(some (30,false)),0⟩,
⟨(some 36),(.q (.pick (.t 30) (.c (.bool true)) (.t 35))),none,0⟩])
(.cond (.t 36) (.seq (.reg [⟨(some 2),(.q (.mv (.c (.bool false)))),none,0⟩])
.ret) .skip))
(.reg [⟨(some 37),(.q (.mv (.t 3))),none,0⟩,
⟨(some 38),(.q (.mv (.t 7))),none,0⟩,
⟨(some 39),(.q (.iaddr (.slice 1) (.t 37) (.t 38))),none,0⟩,
⟨none,(.x (.st 1 (.t 39) (.c (.bool true)))),none,0⟩]))))
(.reg [⟨(some 40),(.q (.bin .add (.p .int) (.t 23) (.c (.int .i64 (.ofNat 1))))),none,0⟩,
⟨(some 23),(.q (.mv (.t 40))),none,0⟩])))))))))
(.reg [⟨(some 41),(.q (.bin .add (.p .int) (.t 15) (.c (.int .i64 (.ofNat 1))))),none,0⟩,
⟨(some 15),(.q (.mv (.t 41))),none,0⟩])))))))
(.seq (.reg [⟨(some 42),(.q (.mv (.t 3))),none,0⟩,
⟨(some 43),(.q (.lenSl (.t 42))),none,0⟩,
⟨(some 44),(.q (.bin .gtr (.p .int) (.t 43) (.c (.int .i64 (.ofNat 0))))),none,0⟩,
⟨(some 45),(.q (.mv (.t 44))),none,0⟩,
⟨(some 46),(.q (.mv (.t 3))),(some (45,true)),0⟩,
⟨(some 47),(.q (.slc (.slice 1) (.t 46) (some (.c (.int .i64 (.ofNat 1)))) none none)),(some (45,true)),0⟩,
⟨(some 48),(.x (.call (.c (.fn 60 [] [])) [(.t 47),(.c (.bool false))])),(some (45,true)),0⟩,
⟨(some 49),(.q (.un .not (.t 48))),(some (45,true)),0⟩,
⟨(some 50),(.q (.pick (.t 45) (.t 49) (.c (.bool false)))),none,0⟩,
⟨(some 2),(.q (.mv (.t 50))),none,0⟩])
.ret))))⟩
theorem row37 : Row Tryd.prog (37, a37) := ⟨Tryd.f37, Tryd.func37, by kernel_rfl⟩
noncomputable def a38 : AFn :=
⟨50,[(.t 2)],(.seq (.reg [⟨(some 1),(.a (.box 32 (.t 0))),none,0⟩,
⟨(some 2),(.q (.mv (.c (.int .i64 (.ofNat 0))))),none,0⟩])
(.seq (.reg [⟨(some 7),(.q (.faddr 1 (.t 1))),none,0⟩,
⟨(some 8),(.q (.ld false 1 (.t 7))),none,0⟩,
⟨(some 9),(.q (.lenSl (.t 8))),none,0⟩,
⟨(some 10),(.a (.mkSlice 3 1 8 [(.int .i64 (.ofNat 0))] (.t 9) (.t 9))),none,0⟩,
⟨(some 3),(.q (.mv (.t 10))),none,0⟩])
(.seq (.seq (.reg [⟨(some 11),(.q (.faddr 1 (.t 1))),none,0⟩,
⟨(some 12),(.q (.ld false 1 (.t 11))),none,0⟩,
⟨(some 13),(.q (.lenSl (.t 12))),none,0⟩,
⟨(some 14),(.q (.bin .sub (.p .int) (.t 13) (.c (.int .i64 (.ofNat 1))))),none,0⟩,
⟨(some 4),(.q (.mv (.t 14))),none,0⟩])
(.block 0 (.loop (.seq (.seq (.reg [⟨(some 15),(.q (.mv (.t 4))),none,0⟩,
⟨(some 16),(.q (.bin .geq (.p .int) (.t 15) (.c (.int .i64 (.ofNat 0))))),none,0⟩])
(.cond (.t 16) .skip (.exit 0)))
(.seq (.block 1 (.seq (.reg [⟨(some 19),(.q (.mv (.t 3))),none,0⟩,
⟨(some 20),(.q (.mv (.t 4))),none,0⟩,
⟨(some 21),(.q (.iaddr (.slice 1) (.t 19) (.t 20))),none,0⟩,
⟨none,(.x (.st 1 (.t 21) (.c (.int .i64 (.ofNat 1))))),none,0⟩])
(.seq (.reg [⟨(some 22),(.q (.faddr 1 (.t 1))),none,0⟩,
⟨(some 23),(.q (.ld false 1 (.t 22))),none,0⟩,
⟨(some 24),(.q (.mv (.t 4))),none,0⟩,
⟨(some 25),(.q (.iaddr (.slice 6) (.t 23) (.t 24))),none,0⟩,
⟨(some 26),(.q (.faddr 3 (.t 25))),none,0⟩,
⟨(some 27),(.q (.ld false 1 (.t 26))),none,0⟩,
⟨(some 28),(.q (.lenSl (.t 27))),none,0⟩,
⟨(some 29),(.q (.mv (.c (.int .i64 (.ofNat 0))))),none,0⟩])
(.block 2 (.loop (.seq (.reg [⟨(some 30),(.q (.bin .lss (.p .int) (.t 29) (.t 28))),none,0⟩])
(.seq (.cond (.t 30) .skip (.exit 2))
(.seq (.block 3 (.seq (.reg [⟨(some 31),(.q (.iaddr (.slice 1) (.t 27) (.t 29))),none,0⟩,
⟨(some 32),(.q (.ld false 1 (.t 31))),none,0⟩,
⟨(some 6),(.q (.mv (.t 32))),none,0⟩])
(.drw [⟨(some 33),(.q (.mv (.t 3))),none,0⟩,
⟨(some 34),(.q (.mv (.t 4))),none,0⟩,
⟨(some 35),(.q (.mv (.t 3))),none,0⟩,
⟨(some 36),(.q (.mv (.t 4))),none,0⟩,
⟨(some 37),(.q (.iaddr (.slice 1) (.t 35) (.t 36))),none,12⟩,
⟨(some 38),(.q (.ld false 1 (.t 37))),none,28⟩,
⟨(some 39),(.q (.mv (.t 3))),none,0⟩,
⟨(some 40),(.q (.mv (.t 6))),none,0⟩,
⟨(some 41),(.q (.iaddr (.slice 1) (.t 39) (.t 40))),none,192⟩,
⟨(some 42),(.q (.ld false 1 (.t 41))),none,448⟩,
⟨(some 43),(.q (.bin .add (.p .int) (.t 38) (.t 42))),none,1020⟩,
⟨(some 44),(.q (.minmax false [(.t 43),(.c (.int .i64 (.ofNat 2001)))])),none,2044⟩,
⟨(some 45),(.q (.iaddr (.slice 1) (.t 33) (.t 34))),none,4095⟩,
⟨none,(.x (.st 1 (.t 45) (.t 44))),none,8191⟩])))
(.reg [⟨(some 46),(.q (.bin .add (.p .int) (.t 29) (.c (.int .i64 (.ofNat 1))))),none,0⟩,
⟨(some 29),(.q (.mv (.t 46))),none,0⟩])))))))))
(.reg [⟨(some 17),(.q (.mv (.t 4))),none,0⟩,
⟨(some 18),(.q (.bin .sub (.p .int) (.t 17) (.c (.int .i64 (.ofNat 1))))),none,0⟩,
⟨(some 4),(.q (.mv (.t 18))),none,0⟩]))))))
(.seq (.reg [⟨(some 47),(.q (.mv (.t 3))),none,0⟩,
⟨(some 48),(.q (.iaddr (.slice 1) (.t 47) (.c (.int .i64 (.ofNat 0))))),none,0⟩,
⟨(some 49),(.q (.ld false 1 (.t 48))),none,0⟩,
⟨(some 2),(.q (.mv (.t 49))),none,0⟩])
.ret))))⟩
theorem row38 : Row Tryd.prog (38, a38) := ⟨Tryd.f38, Tryd.func38, by kernel_rfl⟩
noncomputable def a39 : AFn :=
⟨48,[(.cell 2 true 3)],(.seq (.reg [⟨(some 1),(.a (.box 32 (.t 0))),none,0⟩,
⟨(some 2),(.a (.alloc 25 [(.int .i64 (.ofNat 0)),.nilsl,.nilsl])),none,0⟩])
(.seq (.drw [⟨(some 7),(.q (.faddr 0 (.t 1))),none,0⟩,
⟨(some 8),(.q (.ld false 1 (.t 7))),none,1⟩,
⟨(some 9),(.q (.faddr 2 (.t 1))),none,0⟩,
⟨(some 10),(.q (.ld false 1 (.t 9))),none,4⟩,
⟨(some 11),(.x (.call (.c (.fn 56 [] [])) [(.t 10)])),none,12⟩,
⟨(some 12),(.q (.build [(.int .i64 (.ofNat 0)),.nilsl,.nilsl] [(0,1,(.t 8)),(2,1,(.t 11))])),none,31⟩,
⟨(some 3),(.a (.alloc 25 [(.int .i64 (.ofNat 0)),.nilsl,.nilsl])),none,0⟩,
⟨none,(.x (.st 3 (.t 3) (.t 12))),none,127⟩])
(.seq (.seq (.reg [⟨(some 13),(.q (.ld true 3 (.t 1))),none,0⟩,
⟨(some 14),(.x (.call (.c (.fn 61 [] [])) [(.t 13)])),none,0⟩])
(.block 0 (.rng (.t 14) [15,16] (.seq (.reg [⟨(some 4),(.q (.mv (.t 15))),none,0⟩])
(.reg [⟨(some 5),(.q (.mv (.t 16))),none,0⟩])) (.block 1 (.seq (.seq (.reg [⟨(some 17),(.q (.mv (.t 5))),none,0⟩,
⟨(some 18),(.q (.bin .geq (.p .int) (.t 17) (.c (.int .i64 (.ofNat 0))))),none,0⟩])
(.cond (.t 18) (.drw [⟨(some 19),(.q (.faddr 1 (.t 3))),none,0⟩,
⟨(some 20),(.q (.ld false 1 (.t 19))),none,1⟩,
⟨(some 21),(.q (.mv (.t 5))),none,0⟩,
⟨(some 22),(.q (.faddr 1 (.t 3))),none,0⟩,
⟨(some 23),(.q (.ld false 1 (.t 22))),none,8⟩,
⟨(some 24),(.q (.mv (.t 5))),none,0⟩,
⟨(some 25),(.q (.iaddr (.slice 6) (.t 23) (.t 24))),none,56⟩,
⟨(some 26),(.q (.faddr 3 (.t 25))),none,120⟩,
⟨(some 27),(.q (.ld false 1 (.t 26))),none,248⟩,
⟨(some 28),(.q (.faddr 1 (.t 3))),none,0⟩,
⟨(some 29),(.q (.ld false 1 (.t 28))),none,512⟩,
⟨(some 30),(.q (.lenSl (.t 29))),none,1536⟩,
⟨(some 31),(.a (.bslice 3 1 1 [(.int .i64 (.ofNat 0))] [(0,(.t 30))])),none,3584⟩,
⟨(some 32),(.x (.app 3 1 8 (.t 27) (.t 31))),none,8184⟩,
⟨(some 33),(.q (.iaddr (.slice 6) (.t 20) (.t 21))),none,16383⟩,
⟨(some 34),(.q (.faddr 3 (.t 33))),none,32767⟩,
⟨none,(.x (.st 1 (.t 34) (.t 32))),none,65535⟩]) .skip))
(.seq (.reg [⟨(some 35),(.q (.faddr 1 (.t 1))),none,0⟩,
⟨(some 36),(.q (.ld false 1 (.t 35))),none,0⟩,
⟨(some 37),(.q (.mv (.t 4))),none,0⟩,
⟨(some 38),(.q (.iaddr (.slice 6) (.t 36) (.t 37))),none,0⟩,
⟨(some 39),(.q (.ld true 6 (.t 38))),none,0⟩,
⟨(some 6),(.a (.alloc 51 [(.int .i64 (.ofNat 0)),(.int .i64 (.ofNat 0)),(.int .i64 (.ofNat 0)),.nilsl,.nilsl,.nilsl])),none,0⟩,
⟨none,(.x (.st 6 (.t 6) (.t 39))),none,0⟩])
(.seq (.reg [⟨(some 40),(.q (.faddr 3 (.t 6))),none,0⟩,
⟨none,(.x (.st 1 (.t 40) (.c .nilsl))),none,0⟩])
(.reg [⟨(some 41),(.q (.faddr 1 (.t 3))),none,0⟩,
⟨(some 42),(.q (.ld false 1 (.t 41))),none,0⟩,
⟨(some 43),(.q (.ld true 6 (.t 6))),none,0⟩,
⟨(some 44),(.a (.bslice 51 6 1 [(.int .i64 (.ofNat 0)),(.int .i64 (.ofNat 0)),(.int .i64 (.ofNat 0)),.nilsl,.nilsl,.nilsl] [(0,(.t 43))])),none,0⟩,
⟨(some 45),(.x (.app 51 6 96 (.t 42) (.t 44))),none,0⟩,
⟨(some 46),(.q (.faddr 1 (.t 3))),none,0⟩,
⟨none,(.x (.st 1 (.t 46) (.t 45))),none,0⟩]))))))))
(.seq (.reg [⟨(some 47),(.q (.ld true 3 (.t 3))),none,0⟩,
⟨none,(.x (.st 3 (.t 2) (.t 47))),none,0⟩])
.ret))))⟩
theorem row39 : Row Tryd.prog (39, a39) := ⟨Tryd.f39, Tryd.func39, by kernel_rfl⟩
noncomputable def a40 : AFn :=
⟨32,[(.t 6)],(.seq (.reg [⟨(some 6),(.q (.mv (.c (.bool false)))),none,0⟩])
(.seq (.seq (.reg [⟨(some 10),(.q (.mv (.t 0))),none,0⟩,
⟨(some 11),(.q (.lenSl (.t 10))),none,0⟩,
⟨(some 12),(.q (.mv (.t 1))),none,0⟩,
⟨(some 13),(.q (.lenSl (.t 12))),none,0⟩,
⟨(some 14),(.q (.bin .neq (.p .int) (.t 11) (.t 13))),none,0⟩])
(.cond (.t 14) (.seq (.reg [⟨(some 6),(.q (.mv (.c (.bool false)))),none,0⟩])
.ret) .skip))
(.seq (.seq (.reg [⟨(some 15),(.q (.mv (.t 0))),none,0⟩,
⟨(some 16),(.q (.lenSl (.t 15))),none,0⟩,
⟨(some 17),(.q (.mv (.c (.int .i64 (.ofNat 0))))),none,0⟩])
(.block 0 (.loop (.seq (.reg [⟨(some 18),(.q (.bin .lss (.p .int) (.t 17) (.t 16))),none,0⟩])
(.seq (.cond (.t 18) .skip (.exit 0))
(.seq (.block 1 (.seq (.reg [⟨(some 19),(.q (.mv (.t 17))),none,0⟩,
⟨(some 20),(.q (.iaddr (.slice 6) (.t 15) (.t 17))),none,0⟩,
⟨(some 21),(.q (.ld true 6 (.t 20))),none,0⟩,
⟨(some 8),(.a (.alloc 51 [(.int .i64 (.ofNat 0)),(.int .i64 (.ofNat 0)),(.int .i64 (.ofNat 0)),.nilsl,.nilsl,.nilsl])),none,0⟩,
⟨(some 7),(.q (.mv (.t 19))),none,0⟩,
⟨none,(.x (.st 6 (.t 8) (.t 21))),none,0⟩])
(.seq (.reg [⟨(some 22),(.q (.mv (.t 1))),none,0⟩,
⟨(some 23),(.q (.mv (.t 7))),none,0⟩,
⟨(some 24),(.q (.iaddr (.slice 6) (.t 22) (.t 23))),none,0⟩,
⟨(some 25),(.q (.ld true 6 (.t 24))),none,0⟩,
⟨(some 9),(.a (.alloc 51 [(.int .i64 (.ofNat 0)),(.int .i64 (.ofNat 0)),(.int .i64 (.ofNat 0)),.nilsl,.nilsl,.nilsl])),none,0⟩,
⟨none,(.x (.st 6 (.t 9) (.t 25))),none,0⟩])
(.seq (.reg [⟨(some 26),(.q (.mv (.t 2))),none,0⟩,
⟨(some 27),(.q (.ld true 6 (.t 8))),none,0⟩,
⟨(some 28),(.q (.ld true 6 (.t 9))),none,0⟩,
⟨(some 29),(.x (.call (.t 26) [(.t 27),(.t 28)])),none,0⟩,
⟨(some 30),(.q (.un .not (.t 29))),none,0⟩])
(.cond (.t 30) (.seq (.reg [⟨(some 6),(.q (.mv (.c (.bool false)))),none,0⟩])
.ret) .skip)))))
(.reg [⟨(some 31),(.q (.bin .add (.p .int) (.t 17) (.c (.int .i64 (.ofNat 1))))),none,0⟩,
⟨(some 17),(.q (.mv (.t 31))),none,0⟩])))))))
(.seq (.reg [⟨(some 6),(.q (.mv (.c (.bool true)))),none,0⟩])
.ret))))⟩
theorem row40 : Row Tryd.prog (40, a40) := ⟨Tryd.f40, Tryd.func40, by kernel_rfl⟩
noncomputable def a41 : AFn :=
⟨45,[(.t 4)],(.seq (.reg [⟨(some 2),(.a (.box 51 (.t 0))),none,0⟩,
⟨(some 3),(.a (.box 51 (.t 1))),none,0⟩,
⟨(some 4),(.q (.mv (.c (.bool false)))),none,0⟩])
(.seq (.reg [⟨(some 5),(.q (.faddr 0 (.t 2))),none,0⟩,
⟨(some 6),(.q (.ld false 1 (.t 5))),none,0⟩,
⟨(some 7),(.q (.faddr 0 (.t 3))),none,0⟩,
⟨(some 8),(.q (.ld false 1 (.t 7))),none,0⟩,
⟨(some 9),(.q (.bin .eql (.p .int) (.t 6) (.t 8))),none,0⟩,
⟨(some 10),(.q (.mv (.t 9))),none,0⟩,
⟨(some 11),(.q (.faddr 1 (.t 2))),(some (10,true)),0⟩,
⟨(some 12),(.q (.ld false 1 (.t 11))),(some (10,true)),0⟩,
⟨(some 13),(.q (.faddr 1 (.t 3))),(some (10,true)),0⟩,
⟨(some 14),(.q (.ld false 1 (.t 13))),(some (10,true)),0⟩,
⟨(some 15),(.q (.bin .eql (.p .int) (.t 12) (.t 14))),(some (10,true)),0⟩,
⟨(some 16),(.q (.pick (.t 10) (.t 15) (.c (.bool false)))),none,0⟩,
⟨(some 17),(.q (.mv (.t 16))),none,0⟩,
⟨(some 18),(.q (.faddr 2 (.t 2))),(some (17,true)),0⟩,
⟨(some 19),(.q (.ld false 1 (.t 18))),(some (17,true)),0⟩,
⟨(some 20),(.q (.faddr 2 (.t 3))),(some (17,true)),0⟩,
⟨(some 21),(.q (.ld false 1 (.t 20))),(some (17,true)),0⟩,
⟨(some 22),(.q (.bin .eql (.p .int) (.t 19) (.t 21))),(some (17,true)),0⟩,
⟨(some 23),(.q (.pick (.t 17) (.t 22) (.c (.bool false)))),none,0⟩,
⟨(some 24),(.q (.mv (.t 23))),none,0⟩,
⟨(some 25),(.q (.faddr 3 (.t 2))),(some (24,true)),0⟩,
⟨(some 26),(.q (.ld false 1 (.t 25))),(some (24,true)),0⟩,
⟨(some 27),(.q (.faddr 3 (.t 3))),(some (24,true)),0⟩,
⟨(some 28),(.q (.ld false 1 (.t 27))),(some (24,true)),0⟩,
⟨(some 29),(.x (.call (.c (.fn 62 [] [])) [(.t 26),(.t 28)])),(some (24,true)),0⟩,
⟨(some 30),(.q (.pick (.t 24) (.t 29) (.c (.bool false)))),none,0⟩,
⟨(some 31),(.q (.mv (.t 30))),none,0⟩,
⟨(some 32),(.q (.faddr 4 (.t 2))),(some (31,true)),0⟩,
⟨(some 33),(.q (.ld false 1 (.t 32))),(some (31,true)),0⟩,
⟨(some 34),(.q (.faddr 4 (.t 3))),(some (31,true)),0⟩,
⟨(some 35),(.q (.ld false 1 (.t 34))),(some (31,true)),0⟩,
⟨(some 36),(.x (.call (.c (.fn 62 [] [])) [(.t 33),(.t 35)])),(some (31,true)),0⟩,
⟨(some 37),(.q (.pick (.t 31) (.t 36) (.c (.bool false)))),none,0⟩,
⟨(some 38),(.q (.mv (.t 37))),none,0⟩,
⟨(some 39),(.q (.faddr 5 (.t 2))),(some (38,true)),0⟩,
⟨(some 40),(.q (.ld false 1 (.t 39))),(some (38,true)),0⟩,
⟨(some 41),(.q (.faddr 5 (.t 3))),(some (38,true)),0⟩,
⟨(some 42),(.q (.ld false 1 (.t 41))),(some (38,true)),0⟩,
⟨(some 43),(.x (.call (.c (.fn 62 [] [])) [(.t 40),(.t 42)])),(some (38,true)),0⟩,
⟨(some 44),(.q (.pick (.t 38) (.t 43) (.c (.bool false)))),none,0⟩,
⟨(some 4),(.q (.mv (.t 44))),none,0⟩])
.ret))⟩
theorem row41 : Row Tryd.prog (41, a41) := ⟨Tryd.f41, Tryd.func41, by kernel_rfl⟩
end Go.Proofs.YtfmgnnfghdjpfaaDoor.mergeNames
