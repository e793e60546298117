/- The functions that DealKnown reaches, as data of the evaluator (part 0), written by program; each is shown to be the compiler's result on the loaded function. -/
import Derived.Test.YtiiplmagnlcpbaaGreatDoorProg
import Derived.Test.YtiiplmagnlcpbaaGreatDoorEv7
import Derived.KernelRfl
namespace Go.Proofs.YtiiplmagnlcpbaaGreatDoor.dealKnown
open Go.Ev
set_option maxRecDepth 100000
noncomputable def a7 : AFn :=
⟨39,[(.t 0)],(.seq (.reg [⟨(some 0),(.q (.mv (.c (.bool false)))),none,0⟩])
(.seq (.reg [⟨(some 6),(.x (.call (.c (.fn 18 [] [])) [])),none,0⟩,
⟨(some 7),(.a (.bslice 3 1 1 [(.int .i64 (.ofNat 0))] [(0,(.c (.int .i64 (.ofNat 1))))])),none,0⟩,
⟨(some 8),(.x (.call (.c (.fn 8 [] [])) [(.t 6),(.t 7),(.c (.int .i64 (.ofNat 4)))])),none,0⟩,
⟨(some 5),(.q (.mv (.t 8))),none,0⟩,
⟨(some 9),(.q (.extract (.t 5) 0)),none,0⟩,
⟨(some 10),(.q (.extract (.t 5) 1)),none,0⟩,
⟨(some 1),(.q (.mv (.t 9))),none,0⟩,
⟨(some 2),(.q (.mv (.t 10))),none,0⟩])
(.seq (.reg [⟨(some 12),(.x (.call (.c (.fn 18 [] [])) [])),none,0⟩,
⟨(some 13),(.x (.call (.c (.fn 28 [] [])) [])),none,0⟩,
⟨(some 14),(.x (.call (.c (.fn 27 [] [])) [(.t 12),(.t 13)])),none,0⟩,
⟨(some 11),(.q (.mv (.t 14))),none,0⟩,
⟨(some 15),(.q (.extract (.t 11) 0)),none,0⟩,
⟨(some 16),(.q (.extract (.t 11) 1)),none,0⟩,
⟨(some 3),(.q (.mv (.t 15))),none,0⟩,
⟨(some 4),(.q (.mv (.t 16))),none,0⟩])
(.seq (.reg [⟨(some 17),(.a (.bslice 3 1 4 [(.int .i64 (.ofNat 0))] [(0,(.c (.int .i64 (.ofNat 0)))),(1,(.c (.int .i64 (.ofNat 2)))),(2,(.c (.int .i64 (.ofNat 4)))),(3,(.c (.int .i64 (.ofNat 6))))])),none,0⟩,
⟨(some 18),(.x (.call (.c (.fn 15 [] [])) [(.c (.int .i64 (.ofNat 1))),(.c (.int .i64 (.ofNat 4))),(.t 17)])),none,0⟩,
⟨(some 19),(.q (.mv (.t 18))),none,0⟩,
⟨(some 20),(.q (.mv (.t 1))),(some (19,true)),0⟩,
⟨(some 21),(.q (.bin .eql (.p .int) (.t 20) (.c (.int .i64 (.ofNat 4))))),(some (19,true)),0⟩,
⟨(some 22),(.q (.pick (.t 19) (.t 21) (.c (.bool false)))),none,0⟩,
⟨(some 23),(.q (.mv (.t 22))),none,0⟩,
⟨(some 24),(.q (.mv (.t 2))),(some (23,true)),0⟩,
⟨(some 25),(.q (.bin .eql (.p .int) (.t 24) (.c (.int .i64 (.ofNat 0))))),(some (23,true)),0⟩,
⟨(some 26),(.q (.pick (.t 23) (.t 25) (.c (.bool false)))),none,0⟩,
⟨(some 27),(.q (.mv (.t 26))),none,0⟩,
⟨(some 28),(.q (.mv (.t 3))),(some (27,true)),0⟩,
⟨(some 29),(.q (.bin .eql (.p .int) (.t 28) (.c (.int .i64 (.ofNat 12))))),(some (27,true)),0⟩,
⟨(some 30),(.q (.pick (.t 27) (.t 29) (.c (.bool false)))),none,0⟩,
⟨(some 31),(.q (.mv (.t 30))),none,0⟩,
⟨(some 32),(.q (.mv (.t 4))),(some (31,true)),0⟩,
⟨(some 33),(.q (.bin .eql (.p .int) (.t 32) (.c (.int .i64 (.ofNat 0))))),(some (31,true)),0⟩,
⟨(some 34),(.q (.pick (.t 31) (.t 33) (.c (.bool false)))),none,0⟩,
⟨(some 35),(.q (.mv (.t 34))),none,0⟩,
⟨(some 36),(.a (.bslice 3 1 4 [(.int .i64 (.ofNat 0))] [(0,(.c (.int .i64 (.ofNat 0)))),(1,(.c (.int .i64 (.ofNat 2)))),(2,(.c (.int .i64 (.ofNat 4)))),(3,(.c (.int .i64 (.ofNat 5))))])),(some (35,true)),0⟩,
⟨(some 37),(.x (.call (.c (.fn 16 [] [])) [(.c (.int .i64 (.ofNat 4))),(.t 36)])),(some (35,true)),0⟩,
⟨(some 38),(.q (.pick (.t 35) (.t 37) (.c (.bool false)))),none,0⟩,
⟨(some 0),(.q (.mv (.t 38))),none,0⟩])
.ret))))⟩
theorem row7 : Row Tryz.prog (7, a7) := ⟨Tryz.f7, Tryz.func7, by kernel_rfl⟩
noncomputable def a8 : AFn :=
⟨35,[(.t 6),(.t 7)],(.seq (.reg [⟨(some 3),(.a (.box 25 (.t 0))),none,0⟩,
⟨(some 6),(.q (.mv (.c (.int .i64 (.ofNat 0))))),none,0⟩,
⟨(some 7),(.q (.mv (.c (.int .i64 (.ofNat 0))))),none,0⟩])
(.seq (.reg [⟨(some 11),(.q (.ld true 3 (.t 3))),none,0⟩,
⟨(some 12),(.q (.mv (.t 1))),none,0⟩,
⟨(some 13),(.x (.call (.c (.fn 29 [] [])) [(.t 11),(.t 12)])),none,0⟩,
⟨(some 10),(.q (.mv (.t 13))),none,0⟩,
⟨(some 14),(.q (.extract (.t 10) 0)),none,0⟩,
⟨(some 15),(.q (.extract (.t 10) 1)),none,0⟩,
⟨(some 8),(.q (.mv (.t 14))),none,0⟩,
⟨(some 9),(.q (.mv (.t 15))),none,0⟩])
(.seq (.seq (.reg [⟨(some 16),(.q (.mv (.t 9))),none,0⟩,
⟨(some 17),(.q (.bin .neq (.p .int) (.t 16) (.c (.int .i64 (.ofNat 0))))),none,0⟩])
(.cond (.t 17) (.seq (.reg [⟨(some 18),(.q (.mv (.t 9))),none,0⟩,
⟨(some 6),(.q (.mv (.c (.int .i64 (.ofNat 0))))),none,0⟩,
⟨(some 7),(.q (.mv (.t 18))),none,0⟩])
.ret) .skip))
(.seq (.seq (.reg [⟨(some 19),(.q (.mv (.t 2))),none,0⟩,
⟨(some 20),(.q (.bin .lss (.p .int) (.t 19) (.c (.int .i64 (.ofNat 0))))),none,0⟩,
⟨(some 21),(.q (.mv (.t 20))),none,0⟩,
⟨(some 22),(.q (.mv (.t 2))),(some (21,false)),0⟩,
⟨(some 23),(.q (.faddr 1 (.t 3))),(some (21,false)),0⟩,
⟨(some 24),(.q (.ld false 1 (.t 23))),(some (21,false)),0⟩,
⟨(some 25),(.q (.lenSl (.t 24))),(some (21,false)),0⟩,
⟨(some 26),(.q (.bin .geq (.p .int) (.t 22) (.t 25))),(some (21,false)),0⟩,
⟨(some 27),(.q (.pick (.t 21) (.c (.bool true)) (.t 26))),none,0⟩])
(.cond (.t 27) (.seq (.reg [⟨(some 6),(.q (.mv (.c (.int .i64 (.ofNat 0))))),none,0⟩,
⟨(some 7),(.q (.mv (.c (.int .i64 (.ofNat 2))))),none,0⟩])
.ret) .skip))
(.seq (.reg [⟨(some 28),(.q (.ld true 3 (.t 3))),none,0⟩,
⟨(some 29),(.q (.mv (.t 1))),none,0⟩,
⟨(some 30),(.q (.mv (.t 8))),none,0⟩,
⟨(some 31),(.x (.call (.c (.fn 30 [] [])) [(.t 28),(.t 29),(.t 30)])),none,0⟩,
⟨(some 32),(.q (.mv (.t 2))),none,0⟩,
⟨(some 33),(.q (.iaddr (.slice 1) (.t 31) (.t 32))),none,0⟩,
⟨(some 34),(.q (.ld false 1 (.t 33))),none,0⟩,
⟨(some 6),(.q (.mv (.t 34))),none,0⟩,
⟨(some 7),(.q (.mv (.c (.int .i64 (.ofNat 0))))),none,0⟩])
.ret)))))⟩
theorem row8 : Row Tryz.prog (8, a8) := ⟨Tryz.f8, Tryz.func8, by kernel_rfl⟩
noncomputable def a10 : AFn :=
⟨25,[(.t 6),(.t 7)],(.seq (.reg [⟨(some 3),(.a (.box 25 (.t 0))),none,0⟩,
⟨(some 6),(.q (.mv (.c (.int .i64 (.ofNat 0))))),none,0⟩,
⟨(some 7),(.q (.mv (.c (.int .i64 (.ofNat 0))))),none,0⟩])
(.seq (.reg [⟨(some 11),(.q (.ld true 3 (.t 3))),none,0⟩,
⟨(some 12),(.q (.mv (.t 1))),none,0⟩,
⟨(some 13),(.q (.mv (.t 2))),none,0⟩,
⟨(some 14),(.x (.call (.c (.fn 8 [] [])) [(.t 11),(.t 12),(.t 13)])),none,0⟩,
⟨(some 10),(.q (.mv (.t 14))),none,0⟩,
⟨(some 15),(.q (.extract (.t 10) 0)),none,0⟩,
⟨(some 16),(.q (.extract (.t 10) 1)),none,0⟩,
⟨(some 8),(.q (.mv (.t 15))),none,0⟩,
⟨(some 9),(.q (.mv (.t 16))),none,0⟩])
(.seq (.seq (.reg [⟨(some 17),(.q (.mv (.t 9))),none,0⟩,
⟨(some 18),(.q (.bin .neq (.p .int) (.t 17) (.c (.int .i64 (.ofNat 0))))),none,0⟩])
(.cond (.t 18) (.seq (.reg [⟨(some 19),(.q (.mv (.t 9))),none,0⟩,
⟨(some 6),(.q (.mv (.c (.int .i64 (.ofNat 0))))),none,0⟩,
⟨(some 7),(.q (.mv (.t 19))),none,0⟩])
.ret) .skip))
(.seq (.seq (.reg [⟨(some 20),(.q (.mv (.t 8))),none,0⟩,
⟨(some 21),(.q (.bin .eql (.p .int) (.t 20) (.c (.int .i64 (.ofNat 0))))),none,0⟩])
(.cond (.t 21) (.seq (.reg [⟨(some 6),(.q (.mv (.c (.int .i64 (.ofNat 0))))),none,0⟩,
⟨(some 7),(.q (.mv (.c (.int .i64 (.ofNat 18))))),none,0⟩])
.ret) .skip))
(.seq (.reg [⟨(some 22),(.q (.ld true 3 (.t 3))),none,0⟩,
⟨(some 23),(.q (.mv (.t 2))),none,0⟩,
⟨(some 24),(.x (.call (.c (.fn 33 [] [])) [(.t 22),(.t 23)])),none,0⟩,
⟨(some 6),(.q (.mv (.t 24))),none,0⟩,
⟨(some 7),(.q (.mv (.c (.int .i64 (.ofNat 0))))),none,0⟩])
.ret)))))⟩
theorem row10 : Row Tryz.prog (10, a10) := ⟨Tryz.f10, Tryz.func10, by kernel_rfl⟩
noncomputable def a12 : AFn :=
⟨47,[(.t 4),(.t 5)],(.seq (.reg [⟨(some 2),(.a (.box 25 (.t 0))),none,0⟩,
⟨(some 4),(.q (.mv (.c .nilsl))),none,0⟩,
⟨(some 5),(.q (.mv (.c (.int .i64 (.ofNat 0))))),none,0⟩])
(.seq (.reg [⟨(some 12),(.q (.ld true 3 (.t 2))),none,0⟩,
⟨(some 13),(.q (.mv (.t 1))),none,0⟩,
⟨(some 14),(.x (.call (.c (.fn 29 [] [])) [(.t 12),(.t 13)])),none,0⟩,
⟨(some 11),(.q (.mv (.t 14))),none,0⟩,
⟨(some 15),(.q (.extract (.t 11) 0)),none,0⟩,
⟨(some 16),(.q (.extract (.t 11) 1)),none,0⟩,
⟨(some 6),(.q (.mv (.t 15))),none,0⟩,
⟨(some 7),(.q (.mv (.t 16))),none,0⟩])
(.seq (.seq (.reg [⟨(some 17),(.q (.mv (.t 7))),none,0⟩,
⟨(some 18),(.q (.bin .neq (.p .int) (.t 17) (.c (.int .i64 (.ofNat 0))))),none,0⟩])
(.cond (.t 18) (.seq (.reg [⟨(some 19),(.q (.mv (.t 7))),none,0⟩,
⟨(some 4),(.q (.mv (.c .nilsl))),none,0⟩,
⟨(some 5),(.q (.mv (.t 19))),none,0⟩])
.ret) .skip))
(.seq (.reg [⟨(some 20),(.q (.ld true 3 (.t 2))),none,0⟩,
⟨(some 21),(.q (.mv (.t 1))),none,0⟩,
⟨(some 22),(.q (.mv (.t 6))),none,0⟩,
⟨(some 23),(.x (.call (.c (.fn 30 [] [])) [(.t 20),(.t 21),(.t 22)])),none,0⟩,
⟨(some 8),(.q (.mv (.t 23))),none,0⟩])
(.seq (.reg [⟨(some 24),(.q (.faddr 0 (.t 2))),none,0⟩,
⟨(some 25),(.q (.ld false 1 (.t 24))),none,0⟩,
⟨(some 26),(.a (.mkSlice 46 3 56 [(.bool false),.nilsl,.nilsl] (.t 25) (.t 25))),none,0⟩,
⟨(some 9),(.q (.mv (.t 26))),none,0⟩])
(.seq (.seq (.reg [⟨(some 27),(.q (.mv (.t 9))),none,0⟩,
⟨(some 28),(.q (.lenSl (.t 27))),none,0⟩,
⟨(some 29),(.q (.mv (.c (.int .i64 (.ofNat 0))))),none,0⟩])
(.block 0 (.loop (.seq (.reg [⟨(some 30),(.q (.bin .lss (.p .int) (.t 29) (.t 28))),none,0⟩])
(.seq (.cond (.t 30) .skip (.exit 0))
(.seq (.block 1 (.seq (.reg [⟨(some 31),(.q (.mv (.t 29))),none,0⟩,
⟨(some 10),(.q (.mv (.t 31))),none,0⟩])
(.seq (.reg [⟨(some 33),(.q (.mv (.t 9))),none,0⟩,
⟨(some 34),(.q (.mv (.t 10))),none,0⟩,
⟨(some 35),(.q (.ld true 3 (.t 2))),none,0⟩,
⟨(some 36),(.q (.mv (.t 8))),none,0⟩,
⟨(some 37),(.q (.mv (.t 10))),none,0⟩,
⟨(some 38),(.x (.call (.c (.fn 34 [] [])) [(.t 35),(.t 36),(.t 37)])),none,0⟩,
⟨(some 32),(.q (.mv (.t 38))),none,0⟩,
⟨(some 39),(.q (.extract (.t 32) 0)),none,0⟩,
⟨(some 40),(.q (.extract (.t 32) 1)),none,0⟩,
⟨(some 41),(.q (.iaddr (.slice 3) (.t 33) (.t 34))),none,0⟩,
⟨none,(.x (.st 3 (.t 41) (.t 39))),none,0⟩,
⟨(some 7),(.q (.mv (.t 40))),none,0⟩])
(.seq (.reg [⟨(some 42),(.q (.mv (.t 7))),none,0⟩,
⟨(some 43),(.q (.bin .neq (.p .int) (.t 42) (.c (.int .i64 (.ofNat 0))))),none,0⟩])
(.cond (.t 43) (.seq (.reg [⟨(some 44),(.q (.mv (.t 7))),none,0⟩,
⟨(some 4),(.q (.mv (.c .nilsl))),none,0⟩,
⟨(some 5),(.q (.mv (.t 44))),none,0⟩])
.ret) .skip)))))
(.reg [⟨(some 45),(.q (.bin .add (.p .int) (.t 29) (.c (.int .i64 (.ofNat 1))))),none,0⟩,
⟨(some 29),(.q (.mv (.t 45))),none,0⟩])))))))
(.seq (.reg [⟨(some 46),(.q (.mv (.t 9))),none,0⟩,
⟨(some 4),(.q (.mv (.t 46))),none,0⟩,
⟨(some 5),(.q (.mv (.c (.int .i64 (.ofNat 0))))),none,0⟩])
.ret)))))))⟩
theorem row12 : Row Tryz.prog (12, a12) := ⟨Tryz.f12, Tryz.func12, by kernel_rfl⟩
noncomputable def a14 : AFn :=
⟨27,[(.t 4)],(.seq (.reg [⟨(some 4),(.q (.mv (.c (.bool false)))),none,0⟩])
(.seq (.seq (.reg [⟨(some 6),(.q (.mv (.t 0))),none,0⟩,
⟨(some 7),(.q (.lenSl (.t 6))),none,0⟩,
⟨(some 8),(.q (.mv (.t 1))),none,0⟩,
⟨(some 9),(.q (.lenSl (.t 8))),none,0⟩,
⟨(some 10),(.q (.bin .neq (.p .int) (.t 7) (.t 9))),none,0⟩])
(.cond (.t 10) (.seq (.reg [⟨(some 4),(.q (.mv (.c (.bool false)))),none,0⟩])
.ret) .skip))
(.seq (.seq (.reg [⟨(some 5),(.q (.mv (.c (.int .i64 (.ofNat 0))))),none,0⟩])
(.block 0 (.loop (.seq (.seq (.reg [⟨(some 11),(.q (.mv (.t 5))),none,0⟩,
⟨(some 12),(.q (.mv (.t 0))),none,0⟩,
⟨(some 13),(.q (.lenSl (.t 12))),none,0⟩,
⟨(some 14),(.q (.bin .lss (.p .int) (.t 11) (.t 13))),none,0⟩])
(.cond (.t 14) .skip (.exit 0)))
(.seq (.block 1 (.seq (.drw [⟨(some 17),(.q (.mv (.t 0))),none,0⟩,
⟨(some 18),(.q (.mv (.t 5))),none,0⟩,
⟨(some 19),(.q (.iaddr (.slice 3) (.t 17) (.t 18))),none,3⟩,
⟨(some 20),(.q (.ld true 3 (.t 19))),none,7⟩,
⟨(some 21),(.q (.mv (.t 1))),none,0⟩,
⟨(some 22),(.q (.mv (.t 5))),none,0⟩,
⟨(some 23),(.q (.iaddr (.slice 3) (.t 21) (.t 22))),none,48⟩,
⟨(some 24),(.q (.ld true 3 (.t 23))),none,112⟩,
⟨(some 25),(.x (.call (.c (.fn 26 [] [])) [(.t 20),(.t 24)])),none,255⟩,
⟨(some 26),(.q (.un .not (.t 25))),none,511⟩])
(.cond (.t 26) (.seq (.reg [⟨(some 4),(.q (.mv (.c (.bool false)))),none,0⟩])
.ret) .skip)))
(.reg [⟨(some 15),(.q (.mv (.t 5))),none,0⟩,
⟨(some 16),(.q (.bin .add (.p .int) (.t 15) (.c (.int .i64 (.ofNat 1))))),none,0⟩,
⟨(some 5),(.q (.mv (.t 16))),none,0⟩]))))))
(.seq (.reg [⟨(some 4),(.q (.mv (.c (.bool true)))),none,0⟩])
.ret))))⟩
theorem row14 : Row Tryz.prog (14, a14) := ⟨Tryz.f14, Tryz.func14, by kernel_rfl⟩
noncomputable def a15 : AFn :=
⟨24,[(.t 6)],(.seq (.reg [⟨(some 6),(.q (.mv (.c (.bool false)))),none,0⟩])
(.seq (.reg [⟨(some 10),(.x (.call (.c (.fn 18 [] [])) [])),none,0⟩,
⟨(some 11),(.q (.mv (.t 0))),none,0⟩,
⟨(some 12),(.a (.bslice 3 1 1 [(.int .i64 (.ofNat 0))] [(0,(.t 11))])),none,0⟩,
⟨(some 13),(.q (.mv (.t 1))),none,0⟩,
⟨(some 14),(.x (.call (.c (.fn 17 [] [])) [(.t 10),(.t 12),(.t 13)])),none,0⟩,
⟨(some 9),(.q (.mv (.t 14))),none,0⟩,
⟨(some 15),(.q (.extract (.t 9) 0)),none,0⟩,
⟨(some 16),(.q (.extract (.t 9) 1)),none,0⟩,
⟨(some 7),(.q (.mv (.t 15))),none,0⟩,
⟨(some 8),(.q (.mv (.t 16))),none,0⟩])
(.seq (.reg [⟨(some 17),(.q (.mv (.t 8))),none,0⟩,
⟨(some 18),(.q (.bin .eql (.p .int) (.t 17) (.c (.int .i64 (.ofNat 0))))),none,0⟩,
⟨(some 19),(.q (.mv (.t 18))),none,0⟩,
⟨(some 20),(.q (.mv (.t 7))),(some (19,true)),0⟩,
⟨(some 21),(.q (.mv (.t 2))),(some (19,true)),0⟩,
⟨(some 22),(.x (.call (.c (.fn 20 [] [])) [(.t 20),(.t 21)])),(some (19,true)),0⟩,
⟨(some 23),(.q (.pick (.t 19) (.t 22) (.c (.bool false)))),none,0⟩,
⟨(some 6),(.q (.mv (.t 23))),none,0⟩])
.ret)))⟩
theorem row15 : Row Tryz.prog (15, a15) := ⟨Tryz.f15, Tryz.func15, by kernel_rfl⟩
noncomputable def a16 : AFn :=
⟨21,[(.t 4)],(.seq (.reg [⟨(some 4),(.q (.mv (.c (.bool false)))),none,0⟩])
(.seq (.reg [⟨(some 8),(.x (.call (.c (.fn 18 [] [])) [])),none,0⟩,
⟨(some 9),(.x (.call (.c (.fn 28 [] [])) [])),none,0⟩,
⟨(some 10),(.q (.mv (.t 0))),none,0⟩,
⟨(some 11),(.x (.call (.c (.fn 39 [] [])) [(.t 8),(.t 9),(.t 10)])),none,0⟩,
⟨(some 7),(.q (.mv (.t 11))),none,0⟩,
⟨(some 12),(.q (.extract (.t 7) 0)),none,0⟩,
⟨(some 13),(.q (.extract (.t 7) 1)),none,0⟩,
⟨(some 5),(.q (.mv (.t 12))),none,0⟩,
⟨(some 6),(.q (.mv (.t 13))),none,0⟩])
(.seq (.reg [⟨(some 14),(.q (.mv (.t 6))),none,0⟩,
⟨(some 15),(.q (.bin .eql (.p .int) (.t 14) (.c (.int .i64 (.ofNat 0))))),none,0⟩,
⟨(some 16),(.q (.mv (.t 15))),none,0⟩,
⟨(some 17),(.q (.mv (.t 5))),(some (16,true)),0⟩,
⟨(some 18),(.q (.mv (.t 1))),(some (16,true)),0⟩,
⟨(some 19),(.x (.call (.c (.fn 20 [] [])) [(.t 17),(.t 18)])),(some (16,true)),0⟩,
⟨(some 20),(.q (.pick (.t 16) (.t 19) (.c (.bool false)))),none,0⟩,
⟨(some 4),(.q (.mv (.t 20))),none,0⟩])
.ret)))⟩
theorem row16 : Row Tryz.prog (16, a16) := ⟨Tryz.f16, Tryz.func16, by kernel_rfl⟩
noncomputable def a17 : AFn :=
⟨31,[(.t 6),(.t 7)],(.seq (.reg [⟨(some 3),(.a (.box 25 (.t 0))),none,0⟩,
⟨(some 6),(.q (.mv (.c .nilsl))),none,0⟩,
⟨(some 7),(.q (.mv (.c (.int .i64 (.ofNat 0))))),none,0⟩])
(.seq (.reg [⟨(some 11),(.q (.ld true 3 (.t 3))),none,0⟩,
⟨(some 12),(.q (.mv (.t 1))),none,0⟩,
⟨(some 13),(.x (.call (.c (.fn 29 [] [])) [(.t 11),(.t 12)])),none,0⟩,
⟨(some 10),(.q (.mv (.t 13))),none,0⟩,
⟨(some 14),(.q (.extract (.t 10) 0)),none,0⟩,
⟨(some 15),(.q (.extract (.t 10) 1)),none,0⟩,
⟨(some 8),(.q (.mv (.t 14))),none,0⟩,
⟨(some 9),(.q (.mv (.t 15))),none,0⟩])
(.seq (.seq (.reg [⟨(some 16),(.q (.mv (.t 9))),none,0⟩,
⟨(some 17),(.q (.bin .neq (.p .int) (.t 16) (.c (.int .i64 (.ofNat 0))))),none,0⟩])
(.cond (.t 17) (.seq (.reg [⟨(some 18),(.q (.mv (.t 9))),none,0⟩,
⟨(some 6),(.q (.mv (.c .nilsl))),none,0⟩,
⟨(some 7),(.q (.mv (.t 18))),none,0⟩])
.ret) .skip))
(.seq (.seq (.reg [⟨(some 19),(.q (.mv (.t 2))),none,0⟩,
⟨(some 20),(.q (.bin .lss (.p .int) (.t 19) (.c (.int .i64 (.ofNat 0))))),none,0⟩,
⟨(some 21),(.q (.mv (.t 20))),none,0⟩,
⟨(some 22),(.q (.mv (.t 2))),(some (21,false)),0⟩,
⟨(some 23),(.q (.mv (.t 8))),(some (21,false)),0⟩,
⟨(some 24),(.q (.bin .geq (.p .int) (.t 22) (.t 23))),(some (21,false)),0⟩,
⟨(some 25),(.q (.pick (.t 21) (.c (.bool true)) (.t 24))),none,0⟩])
(.cond (.t 25) (.seq (.reg [⟨(some 6),(.q (.mv (.c .nilsl))),none,0⟩,
⟨(some 7),(.q (.mv (.c (.int .i64 (.ofNat 2))))),none,0⟩])
.ret) .skip))
(.seq (.reg [⟨(some 26),(.q (.ld true 3 (.t 3))),none,0⟩,
⟨(some 27),(.q (.mv (.t 1))),none,0⟩,
⟨(some 28),(.q (.mkIface 65 (.t 27))),none,0⟩,
⟨(some 29),(.q (.mv (.t 2))),none,0⟩,
⟨(some 30),(.x (.call (.c (.fn 40 [] [])) [(.t 26),(.t 28),(.t 29)])),none,0⟩,
⟨(some 6),(.q (.mv (.t 30))),none,0⟩,
⟨(some 7),(.q (.mv (.c (.int .i64 (.ofNat 0))))),none,0⟩])
.ret)))))⟩
theorem row17 : Row Tryz.prog (17, a17) := ⟨Tryz.f17, Tryz.func17, by kernel_rfl⟩
noncomputable def a18 : AFn :=
⟨17,[(.cell 0 true 3)],(.seq (.reg [⟨(some 0),(.a (.alloc 25 [(.int .i64 (.ofNat 0)),.nilsl,.nilsl])),none,0⟩])
(.seq (.reg [⟨(some 1),(.a (.bslice 3 1 2 [(.int .i64 (.ofNat 0))] [(0,(.c (.int .i64 (.ofNat 1)))),(1,(.c (.int .i64 (.ofNat 2))))])),none,0⟩,
⟨(some 2),(.a (.bslice 3 1 2 [(.int .i64 (.ofNat 0))] [(0,(.c (.int .i64 (.ofNat 1)))),(1,(.c (.int .i64 (.ofNat 2))))])),none,0⟩,
⟨(some 3),(.q (.build [(.int .i64 (.ofNat 0)),(.int .i64 (.ofNat 0)),(.int .i64 (.ofNat 0)),.nilsl,.nilsl,.nilsl] [(0,1,(.c (.int .i64 (.ofNat 1)))),(3,1,(.t 1)),(4,1,(.t 2))])),none,0⟩,
⟨(some 4),(.x (.call (.c (.fn 41 [] [])) [(.c (.int .i64 (.ofNat 1)))])),none,0⟩,
⟨(some 5),(.a (.bslice 3 1 2 [(.int .i64 (.ofNat 0))] [(0,(.c (.int .i64 (.ofNat 3)))),(1,(.c (.int .i64 (.ofNat 4))))])),none,0⟩,
⟨(some 6),(.q (.build [(.int .i64 (.ofNat 0)),(.int .i64 (.ofNat 0)),(.int .i64 (.ofNat 0)),.nilsl,.nilsl,.nilsl] [(0,1,(.c (.int .i64 (.ofNat 2)))),(3,1,(.t 5))])),none,0⟩,
⟨(some 7),(.x (.call (.c (.fn 41 [] [])) [(.c (.int .i64 (.ofNat 5)))])),none,0⟩,
⟨(some 8),(.a (.bslice 3 1 2 [(.int .i64 (.ofNat 0))] [(0,(.c (.int .i64 (.ofNat 5)))),(1,(.c (.int .i64 (.ofNat 6))))])),none,0⟩,
⟨(some 9),(.a (.bslice 3 1 2 [(.int .i64 (.ofNat 0))] [(0,(.c (.int .i64 (.ofNat 1)))),(1,(.c (.int .i64 (.ofNat 1))))])),none,0⟩,
⟨(some 10),(.q (.build [(.int .i64 (.ofNat 0)),(.int .i64 (.ofNat 0)),(.int .i64 (.ofNat 0)),.nilsl,.nilsl,.nilsl] [(0,1,(.c (.int .i64 (.ofNat 1)))),(3,1,(.t 8)),(4,1,(.t 9))])),none,0⟩,
⟨(some 11),(.x (.call (.c (.fn 41 [] [])) [(.c (.int .i64 (.ofNat 2)))])),none,0⟩,
⟨(some 12),(.x (.call (.c (.fn 41 [] [])) [(.c (.int .i64 (.ofNat 4)))])),none,0⟩,
⟨(some 13),(.a (.bslice 73 6 7 [(.int .i64 (.ofNat 0)),(.int .i64 (.ofNat 0)),(.int .i64 (.ofNat 0)),.nilsl,.nilsl,.nilsl] [(0,(.t 3)),(1,(.t 4)),(2,(.t 6)),(3,(.t 7)),(4,(.t 10)),(5,(.t 11)),(6,(.t 12))])),none,0⟩,
⟨(some 14),(.q (.build [(.int .i64 (.ofNat 0)),(.int .i64 (.ofNat 0))] [(1,1,(.c (.int .i64 (.ofNat 2))))])),none,0⟩,
⟨(some 15),(.a (.bslice 79 2 1 [(.int .i64 (.ofNat 0)),(.int .i64 (.ofNat 0))] [(0,(.t 14))])),none,0⟩,
⟨(some 16),(.q (.build [(.int .i64 (.ofNat 0)),.nilsl,.nilsl] [(0,1,(.c (.int .i64 (.ofNat 1)))),(1,1,(.t 13)),(2,1,(.t 15))])),none,0⟩,
⟨none,(.x (.st 3 (.t 0) (.t 16))),none,0⟩])
.ret))⟩
theorem row18 : Row Tryz.prog (18, a18) := ⟨Tryz.f18, Tryz.func18, by kernel_rfl⟩
noncomputable def a19 : AFn :=
⟨32,[(.t 6),(.t 7)],(.seq (.reg [⟨(some 3),(.a (.box 25 (.t 0))),none,0⟩,
⟨(some 6),(.q (.mv (.c .nilsl))),none,0⟩,
⟨(some 7),(.q (.mv (.c (.int .i64 (.ofNat 0))))),none,0⟩])
(.seq (.reg [⟨(some 11),(.q (.ld true 3 (.t 3))),none,0⟩,
⟨(some 12),(.q (.mv (.t 1))),none,0⟩,
⟨(some 13),(.q (.mv (.t 2))),none,0⟩,
⟨(some 14),(.x (.call (.c (.fn 17 [] [])) [(.t 11),(.t 12),(.t 13)])),none,0⟩,
⟨(some 10),(.q (.mv (.t 14))),none,0⟩,
⟨(some 15),(.q (.extract (.t 10) 0)),none,0⟩,
⟨(some 16),(.q (.extract (.t 10) 1)),none,0⟩,
⟨(some 8),(.q (.mv (.t 15))),none,0⟩,
⟨(some 9),(.q (.mv (.t 16))),none,0⟩])
(.seq (.seq (.reg [⟨(some 17),(.q (.mv (.t 9))),none,0⟩,
⟨(some 18),(.q (.bin .neq (.p .int) (.t 17) (.c (.int .i64 (.ofNat 0))))),none,0⟩])
(.cond (.t 18) (.seq (.reg [⟨(some 19),(.q (.mv (.t 9))),none,0⟩,
⟨(some 6),(.q (.mv (.c .nilsl))),none,0⟩,
⟨(some 7),(.q (.mv (.t 19))),none,0⟩])
.ret) .skip))
(.seq (.drw [⟨(some 20),(.q (.faddr 1 (.t 3))),none,0⟩,
⟨(some 21),(.q (.ld false 1 (.t 20))),none,1⟩,
⟨(some 22),(.q (.mv (.t 8))),none,0⟩,
⟨(some 23),(.q (.mv (.t 8))),none,0⟩,
⟨(some 24),(.q (.lenSl (.t 23))),none,8⟩,
⟨(some 25),(.q (.bin .sub (.p .int) (.t 24) (.c (.int .i64 (.ofNat 1))))),none,24⟩,
⟨(some 26),(.q (.iaddr (.slice 1) (.t 22) (.t 25))),none,60⟩,
⟨(some 27),(.q (.ld false 1 (.t 26))),none,124⟩,
⟨(some 28),(.q (.iaddr (.slice 6) (.t 21) (.t 27))),none,255⟩,
⟨(some 29),(.q (.faddr 5 (.t 28))),none,511⟩,
⟨(some 30),(.q (.ld false 1 (.t 29))),none,1023⟩,
⟨(some 31),(.x (.call (.c (.fn 42 [] [])) [(.t 30)])),none,2047⟩,
⟨(some 6),(.q (.mv (.t 31))),none,4095⟩,
⟨(some 7),(.q (.mv (.c (.int .i64 (.ofNat 0))))),none,8191⟩])
.ret))))⟩
theorem row19 : Row Tryz.prog (19, a19) := ⟨Tryz.f19, Tryz.func19, by kernel_rfl⟩
noncomputable def a20 : AFn :=
⟨26,[(.t 4)],(.seq (.reg [⟨(some 4),(.q (.mv (.c (.bool false)))),none,0⟩])
(.seq (.seq (.reg [⟨(some 6),(.q (.mv (.t 0))),none,0⟩,
⟨(some 7),(.q (.lenSl (.t 6))),none,0⟩,
⟨(some 8),(.q (.mv (.t 1))),none,0⟩,
⟨(some 9),(.q (.lenSl (.t 8))),none,0⟩,
⟨(some 10),(.q (.bin .neq (.p .int) (.t 7) (.t 9))),none,0⟩])
(.cond (.t 10) (.seq (.reg [⟨(some 4),(.q (.mv (.c (.bool false)))),none,0⟩])
.ret) .skip))
(.seq (.seq (.reg [⟨(some 5),(.q (.mv (.c (.int .i64 (.ofNat 0))))),none,0⟩])
(.block 0 (.loop (.seq (.seq (.reg [⟨(some 11),(.q (.mv (.t 5))),none,0⟩,
⟨(some 12),(.q (.mv (.t 0))),none,0⟩,
⟨(some 13),(.q (.lenSl (.t 12))),none,0⟩,
⟨(some 14),(.q (.bin .lss (.p .int) (.t 11) (.t 13))),none,0⟩])
(.cond (.t 14) .skip (.exit 0)))
(.seq (.block 1 (.seq (.drw [⟨(some 17),(.q (.mv (.t 0))),none,0⟩,
⟨(some 18),(.q (.mv (.t 5))),none,0⟩,
⟨(some 19),(.q (.iaddr (.slice 1) (.t 17) (.t 18))),none,3⟩,
⟨(some 20),(.q (.ld false 1 (.t 19))),none,7⟩,
⟨(some 21),(.q (.mv (.t 1))),none,0⟩,
⟨(some 22),(.q (.mv (.t 5))),none,0⟩,
⟨(some 23),(.q (.iaddr (.slice 1) (.t 21) (.t 22))),none,48⟩,
⟨(some 24),(.q (.ld false 1 (.t 23))),none,112⟩,
⟨(some 25),(.q (.bin .neq (.p .int) (.t 20) (.t 24))),none,255⟩])
(.cond (.t 25) (.seq (.reg [⟨(some 4),(.q (.mv (.c (.bool false)))),none,0⟩])
.ret) .skip)))
(.reg [⟨(some 15),(.q (.mv (.t 5))),none,0⟩,
⟨(some 16),(.q (.bin .add (.p .int) (.t 15) (.c (.int .i64 (.ofNat 1))))),none,0⟩,
⟨(some 5),(.q (.mv (.t 16))),none,0⟩]))))))
(.seq (.reg [⟨(some 4),(.q (.mv (.c (.bool true)))),none,0⟩])
.ret))))⟩
theorem row20 : Row Tryz.prog (20, a20) := ⟨Tryz.f20, Tryz.func20, by kernel_rfl⟩
noncomputable def a21 : AFn :=
⟨31,[(.cell 4 true 3)],(.seq (.reg [⟨(some 4),(.a (.alloc 46 [(.bool false),.nilsl,.nilsl])),none,0⟩])
(.seq (.reg [⟨(some 6),(.q (.mv (.t 0))),none,0⟩,
⟨(some 7),(.q (.mv (.t 0))),none,0⟩,
⟨(some 8),(.q (.un .neg (.t 7))),none,0⟩,
⟨(some 9),(.q (.minmax true [(.t 6),(.t 8)])),none,0⟩,
⟨(some 10),(.q (.mv (.t 1))),none,0⟩,
⟨(some 11),(.x (.call (.c (.fn 43 [] [])) [(.t 9),(.t 10)])),none,0⟩,
⟨(some 5),(.q (.mv (.t 11))),none,0⟩])
(.seq (.drw [⟨(some 12),(.q (.mv (.t 0))),none,0⟩,
⟨(some 13),(.q (.mv (.t 5))),none,0⟩,
⟨(some 14),(.q (.bin .quo (.p .int) (.t 12) (.t 13))),none,3⟩,
⟨(some 15),(.q (.mv (.t 1))),none,0⟩,
⟨(some 16),(.q (.mv (.t 5))),none,0⟩,
⟨(some 17),(.q (.bin .quo (.p .int) (.t 15) (.t 16))),none,24⟩,
⟨(some 0),(.q (.mv (.t 14))),none,7⟩,
⟨(some 1),(.q (.mv (.t 17))),none,127⟩])
(.seq (.seq (.reg [⟨(some 18),(.q (.mv (.t 0))),none,0⟩,
⟨(some 19),(.q (.bin .lss (.p .int) (.t 18) (.c (.int .i64 (.ofNat 0))))),none,0⟩])
(.cond (.t 19) (.seq (.reg [⟨(some 20),(.q (.mv (.t 0))),none,0⟩,
⟨(some 21),(.q (.un .neg (.t 20))),none,0⟩,
⟨(some 22),(.x (.call (.c (.fn 44 [] [])) [(.t 21)])),none,0⟩,
⟨(some 23),(.q (.mv (.t 1))),none,0⟩,
⟨(some 24),(.x (.call (.c (.fn 44 [] [])) [(.t 23)])),none,0⟩,
⟨(some 25),(.q (.build [(.bool false),.nilsl,.nilsl] [(0,1,(.c (.bool true))),(1,1,(.t 22)),(2,1,(.t 24))])),none,0⟩,
⟨none,(.x (.st 3 (.t 4) (.t 25))),none,0⟩])
.ret) .skip))
(.seq (.reg [⟨(some 26),(.q (.mv (.t 0))),none,0⟩,
⟨(some 27),(.x (.call (.c (.fn 44 [] [])) [(.t 26)])),none,0⟩,
⟨(some 28),(.q (.mv (.t 1))),none,0⟩,
⟨(some 29),(.x (.call (.c (.fn 44 [] [])) [(.t 28)])),none,0⟩,
⟨(some 30),(.q (.build [(.bool false),.nilsl,.nilsl] [(1,1,(.t 27)),(2,1,(.t 29))])),none,0⟩,
⟨none,(.x (.st 3 (.t 4) (.t 30))),none,0⟩])
.ret)))))⟩
theorem row21 : Row Tryz.prog (21, a21) := ⟨Tryz.f21, Tryz.func21, by kernel_rfl⟩
noncomputable def a25 : AFn :=
⟨24,[(.t 2),(.t 3)],(.seq (.reg [⟨(some 1),(.a (.box 25 (.t 0))),none,0⟩,
⟨(some 2),(.q (.mv (.c (.int .i64 (.ofNat 0))))),none,0⟩,
⟨(some 3),(.q (.mv (.c (.int .i64 (.ofNat 0))))),none,0⟩])
(.seq (.seq (.reg [⟨(some 6),(.q (.ld true 3 (.t 1))),none,0⟩,
⟨(some 7),(.x (.call (.c (.fn 47 [] [])) [(.t 6)])),none,0⟩,
⟨(some 4),(.q (.mv (.t 7))),none,0⟩])
(.seq (.reg [⟨(some 8),(.q (.mv (.t 4))),none,0⟩,
⟨(some 9),(.q (.bin .neq (.p .int) (.t 8) (.c (.int .i64 (.ofNat 0))))),none,0⟩])
(.cond (.t 9) (.seq (.reg [⟨(some 10),(.q (.mv (.t 4))),none,0⟩,
⟨(some 2),(.q (.mv (.c (.int .i64 (.ofNat 0))))),none,0⟩,
⟨(some 3),(.q (.mv (.t 10))),none,0⟩])
.ret) .skip)))
(.seq (.reg [⟨(some 11),(.q (.ld true 3 (.t 1))),none,0⟩,
⟨(some 12),(.q (.build [(.int .i64 (.ofNat 0)),.nilsl,.nilsl,(.int .i64 (.ofNat 0)),(.bool false)] [(0,3,(.t 11)),(3,1,(.c (.int .i64 (.ofNat 1))))])),none,0⟩,
⟨(some 13),(.a (.box 94 (.t 12))),none,0⟩,
⟨(some 5),(.q (.mv (.t 13))),none,0⟩])
(.seq (.seq (.reg [⟨(some 14),(.q (.mv (.t 5))),none,0⟩,
⟨(some 15),(.x (.call (.c (.fn 48 [] [])) [(.t 14),(.c (.int .i64 (.ofNat 0))),(.c (.int .i64 (.ofNat 1)))])),none,0⟩])
(.seq (.reg [⟨(some 16),(.q (.mv (.t 5))),none,0⟩,
⟨(some 17),(.q (.nilchk (.t 16))),none,0⟩,
⟨(some 18),(.q (.faddr 4 (.t 17))),none,0⟩,
⟨(some 19),(.q (.ld false 1 (.t 18))),none,0⟩])
(.cond (.t 19) (.seq (.reg [⟨(some 2),(.q (.mv (.c (.int .i64 (.ofNat 0))))),none,0⟩,
⟨(some 3),(.q (.mv (.c (.int .i64 (.ofNat 5))))),none,0⟩])
.ret) .skip)))
(.seq (.reg [⟨(some 20),(.q (.mv (.t 5))),none,0⟩,
⟨(some 21),(.q (.nilchk (.t 20))),none,0⟩,
⟨(some 22),(.q (.faddr 3 (.t 21))),none,0⟩,
⟨(some 23),(.q (.ld false 1 (.t 22))),none,0⟩,
⟨(some 2),(.q (.mv (.t 23))),none,0⟩,
⟨(some 3),(.q (.mv (.c (.int .i64 (.ofNat 0))))),none,0⟩])
.ret)))))⟩
theorem row25 : Row Tryz.prog (25, a25) := ⟨Tryz.f25, Tryz.func25, by kernel_rfl⟩
noncomputable def a26 : AFn :=
⟨24,[(.t 4)],(.seq (.reg [⟨(some 2),(.a (.box 46 (.t 0))),none,0⟩,
⟨(some 3),(.a (.box 46 (.t 1))),none,0⟩,
⟨(some 4),(.q (.mv (.c (.bool false)))),none,0⟩])
(.seq (.reg [⟨(some 5),(.q (.faddr 0 (.t 2))),none,0⟩,
⟨(some 6),(.q (.ld false 1 (.t 5))),none,0⟩,
⟨(some 7),(.q (.faddr 0 (.t 3))),none,0⟩,
⟨(some 8),(.q (.ld false 1 (.t 7))),none,0⟩,
⟨(some 9),(.q (.bin .eql (.p .bool) (.t 6) (.t 8))),none,0⟩,
⟨(some 10),(.q (.mv (.t 9))),none,0⟩,
⟨(some 11),(.q (.faddr 1 (.t 2))),(some (10,true)),0⟩,
⟨(some 12),(.q (.ld false 1 (.t 11))),(some (10,true)),0⟩,
⟨(some 13),(.q (.faddr 1 (.t 3))),(some (10,true)),0⟩,
⟨(some 14),(.q (.ld false 1 (.t 13))),(some (10,true)),0⟩,
⟨(some 15),(.x (.call (.c (.fn 49 [] [])) [(.t 12),(.t 14)])),(some (10,true)),0⟩,
⟨(some 16),(.q (.pick (.t 10) (.t 15) (.c (.bool false)))),none,0⟩,
⟨(some 17),(.q (.mv (.t 16))),none,0⟩,
⟨(some 18),(.q (.faddr 2 (.t 2))),(some (17,true)),0⟩,
⟨(some 19),(.q (.ld false 1 (.t 18))),(some (17,true)),0⟩,
⟨(some 20),(.q (.faddr 2 (.t 3))),(some (17,true)),0⟩,
⟨(some 21),(.q (.ld false 1 (.t 20))),(some (17,true)),0⟩,
⟨(some 22),(.x (.call (.c (.fn 49 [] [])) [(.t 19),(.t 21)])),(some (17,true)),0⟩,
⟨(some 23),(.q (.pick (.t 17) (.t 22) (.c (.bool false)))),none,0⟩,
⟨(some 4),(.q (.mv (.t 23))),none,0⟩])
.ret))⟩
theorem row26 : Row Tryz.prog (26, a26) := ⟨Tryz.f26, Tryz.func26, by kernel_rfl⟩
noncomputable def a27 : AFn :=
⟨19,[(.t 4),(.t 5)],(.seq (.reg [⟨(some 2),(.a (.box 25 (.t 0))),none,0⟩,
⟨(some 3),(.a (.box 61 (.t 1))),none,0⟩,
⟨(some 4),(.q (.mv (.c (.int .i64 (.ofNat 0))))),none,0⟩,
⟨(some 5),(.q (.mv (.c (.int .i64 (.ofNat 0))))),none,0⟩])
(.seq (.seq (.reg [⟨(some 7),(.q (.ld true 3 (.t 2))),none,0⟩,
⟨(some 8),(.q (.ld true 2 (.t 3))),none,0⟩,
⟨(some 9),(.x (.call (.c (.fn 50 [] [])) [(.t 7),(.t 8)])),none,0⟩,
⟨(some 6),(.q (.mv (.t 9))),none,0⟩])
(.seq (.reg [⟨(some 10),(.q (.mv (.t 6))),none,0⟩,
⟨(some 11),(.q (.bin .neq (.p .int) (.t 10) (.c (.int .i64 (.ofNat 0))))),none,0⟩])
(.cond (.t 11) (.seq (.reg [⟨(some 12),(.q (.mv (.t 6))),none,0⟩,
⟨(some 4),(.q (.mv (.c (.int .i64 (.ofNat 0))))),none,0⟩,
⟨(some 5),(.q (.mv (.t 12))),none,0⟩])
.ret) .skip)))
(.seq (.reg [⟨(some 13),(.q (.ld true 3 (.t 2))),none,0⟩,
⟨(some 14),(.q (.ld true 2 (.t 3))),none,0⟩,
⟨(some 15),(.q (.mkIface 100 (.t 14))),none,0⟩,
⟨(some 16),(.x (.call (.c (.fn 51 [] [])) [(.t 13),(.t 15)])),none,0⟩,
⟨(some 17),(.q (.extract (.t 16) 0)),none,0⟩,
⟨(some 18),(.q (.extract (.t 16) 1)),none,0⟩,
⟨(some 4),(.q (.mv (.t 17))),none,0⟩,
⟨(some 5),(.q (.mv (.t 18))),none,0⟩])
.ret)))⟩
theorem row27 : Row Tryz.prog (27, a27) := ⟨Tryz.f27, Tryz.func27, by kernel_rfl⟩
noncomputable def a28 : AFn :=
⟨4,[(.cell 0 true 2)],(.seq (.reg [⟨(some 0),(.a (.alloc 61 [(.int .i64 (.ofNat 0)),.nilsl])),none,0⟩])
(.seq (.reg [⟨(some 1),(.a (.bslice 3 1 2 [(.int .i64 (.ofNat 0))] [(0,(.c (.int .i64 (.ofNat 1)))),(1,(.c (.int .i64 (.ofNat 1))))])),none,0⟩,
⟨(some 2),(.a (.bslice 26 1 1 [.nilsl] [(0,(.t 1))])),none,0⟩,
⟨(some 3),(.q (.build [(.int .i64 (.ofNat 0)),.nilsl] [(0,1,(.c (.int .i64 (.ofNat 1)))),(1,1,(.t 2))])),none,0⟩,
⟨none,(.x (.st 2 (.t 0) (.t 3))),none,0⟩])
.ret))⟩
theorem row28 : Row Tryz.prog (28, a28) := ⟨Tryz.f28, Tryz.func28, by kernel_rfl⟩
noncomputable def a29 : AFn :=
⟨44,[(.t 4),(.t 5)],(.seq (.reg [⟨(some 2),(.a (.box 25 (.t 0))),none,0⟩,
⟨(some 4),(.q (.mv (.c (.int .i64 (.ofNat 0))))),none,0⟩,
⟨(some 5),(.q (.mv (.c (.int .i64 (.ofNat 0))))),none,0⟩])
(.seq (.seq (.reg [⟨(some 9),(.q (.ld true 3 (.t 2))),none,0⟩,
⟨(some 10),(.x (.call (.c (.fn 47 [] [])) [(.t 9)])),none,0⟩,
⟨(some 6),(.q (.mv (.t 10))),none,0⟩])
(.seq (.reg [⟨(some 11),(.q (.mv (.t 6))),none,0⟩,
⟨(some 12),(.q (.bin .neq (.p .int) (.t 11) (.c (.int .i64 (.ofNat 0))))),none,0⟩])
(.cond (.t 12) (.seq (.reg [⟨(some 13),(.q (.mv (.t 6))),none,0⟩,
⟨(some 4),(.q (.mv (.c (.int .i64 (.ofNat 0))))),none,0⟩,
⟨(some 5),(.q (.mv (.t 13))),none,0⟩])
.ret) .skip)))
(.seq (.seq (.reg [⟨(some 14),(.q (.mv (.t 1))),none,0⟩,
⟨(some 15),(.q (.lenSl (.t 14))),none,0⟩,
⟨(some 16),(.q (.faddr 2 (.t 2))),none,0⟩,
⟨(some 17),(.q (.ld false 1 (.t 16))),none,0⟩,
⟨(some 18),(.q (.lenSl (.t 17))),none,0⟩,
⟨(some 19),(.q (.bin .neq (.p .int) (.t 15) (.t 18))),none,0⟩])
(.cond (.t 19) (.seq (.reg [⟨(some 4),(.q (.mv (.c (.int .i64 (.ofNat 0))))),none,0⟩,
⟨(some 5),(.q (.mv (.c (.int .i64 (.ofNat 10))))),none,0⟩])
.ret) .skip))
(.seq (.seq (.reg [⟨(some 20),(.q (.mv (.t 1))),none,0⟩,
⟨(some 21),(.q (.lenSl (.t 20))),none,0⟩,
⟨(some 22),(.q (.mv (.c (.int .i64 (.ofNat 0))))),none,0⟩])
(.block 0 (.loop (.seq (.reg [⟨(some 23),(.q (.bin .lss (.p .int) (.t 22) (.t 21))),none,0⟩])
(.seq (.cond (.t 23) .skip (.exit 0))
(.seq (.block 1 (.seq (.reg [⟨(some 24),(.q (.mv (.t 22))),none,0⟩,
⟨(some 25),(.q (.iaddr (.slice 1) (.t 20) (.t 22))),none,0⟩,
⟨(some 26),(.q (.ld false 1 (.t 25))),none,0⟩,
⟨(some 7),(.q (.mv (.t 24))),none,0⟩,
⟨(some 8),(.q (.mv (.t 26))),none,0⟩])
(.seq (.reg [⟨(some 27),(.q (.mv (.t 8))),none,0⟩,
⟨(some 28),(.q (.bin .lss (.p .int) (.t 27) (.c (.int .i64 (.ofNat 0))))),none,0⟩,
⟨(some 29),(.q (.mv (.t 28))),none,0⟩,
⟨(some 30),(.q (.mv (.t 8))),(some (29,false)),0⟩,
⟨(some 31),(.q (.faddr 2 (.t 2))),(some (29,false)),0⟩,
⟨(some 32),(.q (.ld false 1 (.t 31))),(some (29,false)),0⟩,
⟨(some 33),(.q (.mv (.t 7))),(some (29,false)),0⟩,
⟨(some 34),(.q (.iaddr (.slice 2) (.t 32) (.t 33))),(some (29,false)),0⟩,
⟨(some 35),(.q (.faddr 1 (.t 34))),(some (29,false)),0⟩,
⟨(some 36),(.q (.ld false 1 (.t 35))),(some (29,false)),0⟩,
⟨(some 37),(.q (.bin .geq (.p .int) (.t 30) (.t 36))),(some (29,false)),0⟩,
⟨(some 38),(.q (.pick (.t 29) (.c (.bool true)) (.t 37))),none,0⟩])
(.cond (.t 38) (.seq (.reg [⟨(some 4),(.q (.mv (.c (.int .i64 (.ofNat 0))))),none,0⟩,
⟨(some 5),(.q (.mv (.c (.int .i64 (.ofNat 2))))),none,0⟩])
.ret) .skip))))
(.reg [⟨(some 39),(.q (.bin .add (.p .int) (.t 22) (.c (.int .i64 (.ofNat 1))))),none,0⟩,
⟨(some 22),(.q (.mv (.t 39))),none,0⟩])))))))
(.seq (.reg [⟨(some 40),(.q (.ld true 3 (.t 2))),none,0⟩,
⟨(some 41),(.x (.call (.c (.fn 25 [] [])) [(.t 40)])),none,0⟩,
⟨(some 42),(.q (.extract (.t 41) 0)),none,0⟩,
⟨(some 43),(.q (.extract (.t 41) 1)),none,0⟩,
⟨(some 4),(.q (.mv (.t 42))),none,0⟩,
⟨(some 5),(.q (.mv (.t 43))),none,0⟩])
.ret)))))⟩
theorem row29 : Row Tryz.prog (29, a29) := ⟨Tryz.f29, Tryz.func29, by kernel_rfl⟩
noncomputable def a30 : AFn :=
⟨78,[(.t 6)],(.seq (.reg [⟨(some 3),(.a (.box 25 (.t 0))),none,0⟩,
⟨(some 6),(.q (.mv (.c .nilsl))),none,0⟩])
(.seq (.reg [⟨(some 13),(.q (.faddr 1 (.t 3))),none,0⟩,
⟨(some 14),(.q (.ld false 1 (.t 13))),none,0⟩,
⟨(some 15),(.q (.lenSl (.t 14))),none,0⟩,
⟨(some 16),(.a (.mkSlice 3 1 8 [(.int .i64 (.ofNat 0))] (.t 15) (.t 15))),none,0⟩,
⟨(some 7),(.q (.mv (.t 16))),none,0⟩])
(.seq (.reg [⟨(some 17),(.q (.mv (.t 7))),none,0⟩,
⟨(some 18),(.q (.mv (.t 2))),none,0⟩,
⟨(some 19),(.q (.iaddr (.slice 1) (.t 17) (.c (.int .i64 (.ofNat 0))))),none,0⟩,
⟨none,(.x (.st 1 (.t 19) (.t 18))),none,0⟩])
(.seq (.seq (.reg [⟨(some 20),(.q (.faddr 1 (.t 3))),none,0⟩,
⟨(some 21),(.q (.ld false 1 (.t 20))),none,0⟩,
⟨(some 22),(.q (.lenSl (.t 21))),none,0⟩,
⟨(some 23),(.q (.mv (.c (.int .i64 (.ofNat 0))))),none,0⟩])
(.block 0 (.loop (.seq (.reg [⟨(some 24),(.q (.bin .lss (.p .int) (.t 23) (.t 22))),none,0⟩])
(.seq (.cond (.t 24) .skip (.exit 0))
(.seq (.block 1 (.seq (.reg [⟨(some 25),(.q (.mv (.t 23))),none,0⟩,
⟨(some 26),(.q (.iaddr (.slice 6) (.t 21) (.t 23))),none,0⟩,
⟨(some 27),(.q (.ld true 6 (.t 26))),none,0⟩,
⟨(some 9),(.a (.alloc 73 [(.int .i64 (.ofNat 0)),(.int .i64 (.ofNat 0)),(.int .i64 (.ofNat 0)),.nilsl,.nilsl,.nilsl])),none,0⟩,
⟨(some 8),(.q (.mv (.t 25))),none,0⟩,
⟨none,(.x (.st 6 (.t 9) (.t 27))),none,0⟩])
(.seq (.reg [⟨(some 28),(.q (.faddr 0 (.t 9))),none,0⟩,
⟨(some 29),(.q (.ld false 1 (.t 28))),none,0⟩])
(.block 2 (.seq (.reg [⟨(some 31),(.q (.bin .eql (.p .int) (.t 29) (.c (.int .i64 (.ofNat 1))))),none,0⟩,
⟨(some 30),(.q (.mv (.t 31))),none,0⟩])
(.cond (.t 30) (.seq (.drw [⟨(some 32),(.q (.mv (.t 7))),none,0⟩,
⟨(some 33),(.q (.mv (.t 8))),none,0⟩,
⟨(some 34),(.q (.iaddr (.slice 1) (.t 32) (.t 33))),none,3⟩,
⟨(some 35),(.q (.ld false 1 (.t 34))),none,7⟩,
⟨(some 36),(.q (.build [] [])),none,0⟩,
⟨(some 37),(.q (.ld true 6 (.t 9))),none,0⟩,
⟨(some 38),(.x (.call (.c (.fn 52 [] [])) [(.t 36),(.t 37)])),none,48⟩,
⟨(some 39),(.q (.bin .quo (.p .int) (.t 35) (.t 38))),none,127⟩,
⟨(some 10),(.q (.mv (.t 39))),none,255⟩])
(.seq (.reg [⟨(some 40),(.q (.faddr 3 (.t 9))),none,0⟩,
⟨(some 41),(.q (.ld false 1 (.t 40))),none,0⟩,
⟨(some 42),(.q (.lenSl (.t 41))),none,0⟩,
⟨(some 43),(.q (.mv (.c (.int .i64 (.ofNat 0))))),none,0⟩])
(.block 3 (.loop (.seq (.reg [⟨(some 44),(.q (.bin .lss (.p .int) (.t 43) (.t 42))),none,0⟩])
(.seq (.cond (.t 44) .skip (.exit 3))
(.seq (.block 4 (.seq (.reg [⟨(some 45),(.q (.mv (.t 43))),none,0⟩,
⟨(some 46),(.q (.iaddr (.slice 1) (.t 41) (.t 43))),none,0⟩,
⟨(some 47),(.q (.ld false 1 (.t 46))),none,0⟩,
⟨(some 11),(.q (.mv (.t 45))),none,0⟩,
⟨(some 12),(.q (.mv (.t 47))),none,0⟩])
(.reg [⟨(some 48),(.q (.mv (.t 7))),none,0⟩,
⟨(some 49),(.q (.mv (.t 12))),none,0⟩,
⟨(some 50),(.q (.mv (.t 10))),none,0⟩,
⟨(some 51),(.q (.faddr 4 (.t 9))),none,0⟩,
⟨(some 52),(.q (.ld false 1 (.t 51))),none,0⟩,
⟨(some 53),(.q (.mv (.t 11))),none,0⟩,
⟨(some 54),(.q (.iaddr (.slice 1) (.t 52) (.t 53))),none,0⟩,
⟨(some 55),(.q (.ld false 1 (.t 54))),none,0⟩,
⟨(some 56),(.q (.bin .mul (.p .int) (.t 50) (.t 55))),none,0⟩,
⟨(some 57),(.q (.iaddr (.slice 1) (.t 48) (.t 49))),none,0⟩,
⟨none,(.x (.st 1 (.t 57) (.t 56))),none,0⟩])))
(.reg [⟨(some 58),(.q (.bin .add (.p .int) (.t 43) (.c (.int .i64 (.ofNat 1))))),none,0⟩,
⟨(some 43),(.q (.mv (.t 58))),none,0⟩])))))))) (.seq (.reg [⟨(some 60),(.q (.bin .eql (.p .int) (.t 29) (.c (.int .i64 (.ofNat 2))))),none,0⟩,
⟨(some 59),(.q (.mv (.t 60))),none,0⟩])
(.cond (.t 59) (.drw [⟨(some 61),(.q (.mv (.t 7))),none,0⟩,
⟨(some 62),(.q (.faddr 3 (.t 9))),none,0⟩,
⟨(some 63),(.q (.ld false 1 (.t 62))),none,2⟩,
⟨(some 64),(.q (.mv (.t 1))),none,0⟩,
⟨(some 65),(.q (.faddr 2 (.t 9))),none,0⟩,
⟨(some 66),(.q (.ld false 1 (.t 65))),none,16⟩,
⟨(some 67),(.q (.iaddr (.slice 1) (.t 64) (.t 66))),none,56⟩,
⟨(some 68),(.q (.ld false 1 (.t 67))),none,120⟩,
⟨(some 69),(.q (.iaddr (.slice 1) (.t 63) (.t 68))),none,254⟩,
⟨(some 70),(.q (.ld false 1 (.t 69))),none,510⟩,
⟨(some 71),(.q (.mv (.t 7))),none,0⟩,
⟨(some 72),(.q (.mv (.t 8))),none,0⟩,
⟨(some 73),(.q (.iaddr (.slice 1) (.t 71) (.t 72))),none,3072⟩,
⟨(some 74),(.q (.ld false 1 (.t 73))),none,7168⟩,
⟨(some 75),(.q (.iaddr (.slice 1) (.t 61) (.t 70))),none,16383⟩,
⟨none,(.x (.st 1 (.t 75) (.t 74))),none,32767⟩]) .skip))))))))
(.reg [⟨(some 76),(.q (.bin .add (.p .int) (.t 23) (.c (.int .i64 (.ofNat 1))))),none,0⟩,
⟨(some 23),(.q (.mv (.t 76))),none,0⟩])))))))
(.seq (.reg [⟨(some 77),(.q (.mv (.t 7))),none,0⟩,
⟨(some 6),(.q (.mv (.t 77))),none,0⟩])
.ret)))))⟩
theorem row30 : Row Tryz.prog (30, a30) := ⟨Tryz.f30, Tryz.func30, by kernel_rfl⟩
noncomputable def a33 : AFn :=
⟨52,[(.t 4)],(.seq (.reg [⟨(some 2),(.a (.box 25 (.t 0))),none,0⟩,
⟨(some 4),(.q (.mv (.c (.int .i64 (.ofNat 0))))),none,0⟩])
(.seq (.reg [⟨(some 5),(.q (.mv (.c (.int .i64 (.ofNat 0))))),none,0⟩,
⟨(some 6),(.q (.mv (.c (.int .i64 (.ofNat 1))))),none,0⟩,
⟨(some 7),(.q (.mv (.c (.int .i64 (.ofNat 0))))),none,0⟩])
(.seq (.block 0 (.loop (.seq (.seq (.reg [⟨(some 12),(.q (.mv (.t 7))),none,0⟩,
⟨(some 13),(.q (.mv (.t 1))),none,0⟩,
⟨(some 14),(.q (.bin .neq (.p .int) (.t 12) (.t 13))),none,0⟩])
(.cond (.t 14) .skip (.exit 0)))
(.block 1 (.seq (.reg [⟨(some 15),(.q (.faddr 1 (.t 2))),none,0⟩,
⟨(some 16),(.q (.ld false 1 (.t 15))),none,0⟩,
⟨(some 17),(.q (.mv (.t 7))),none,0⟩,
⟨(some 18),(.q (.iaddr (.slice 6) (.t 16) (.t 17))),none,0⟩,
⟨(some 19),(.q (.ld true 6 (.t 18))),none,0⟩,
⟨(some 8),(.a (.alloc 73 [(.int .i64 (.ofNat 0)),(.int .i64 (.ofNat 0)),(.int .i64 (.ofNat 0)),.nilsl,.nilsl,.nilsl])),none,0⟩,
⟨none,(.x (.st 6 (.t 8) (.t 19))),none,0⟩])
(.seq (.reg [⟨(some 20),(.q (.ld true 6 (.t 8))),none,0⟩,
⟨(some 21),(.q (.mv (.t 1))),none,0⟩,
⟨(some 22),(.x (.call (.c (.fn 56 [] [])) [(.t 20),(.t 21)])),none,0⟩,
⟨(some 9),(.q (.mv (.t 22))),none,0⟩])
(.seq (.seq (.reg [⟨(some 23),(.q (.faddr 0 (.t 8))),none,0⟩,
⟨(some 24),(.q (.ld false 1 (.t 23))),none,0⟩,
⟨(some 25),(.q (.bin .eql (.p .int) (.t 24) (.c (.int .i64 (.ofNat 1))))),none,0⟩])
(.cond (.t 25) (.seq (.seq (.reg [⟨(some 26),(.q (.faddr 4 (.t 8))),none,0⟩,
⟨(some 27),(.q (.ld false 1 (.t 26))),none,0⟩,
⟨(some 28),(.q (.mv (.t 9))),none,0⟩,
⟨(some 29),(.q (.slc (.slice 1) (.t 27) none (some (.t 28)) none)),none,0⟩,
⟨(some 30),(.q (.lenSl (.t 29))),none,0⟩,
⟨(some 31),(.q (.mv (.c (.int .i64 (.ofNat 0))))),none,0⟩])
(.block 2 (.loop (.seq (.reg [⟨(some 32),(.q (.bin .lss (.p .int) (.t 31) (.t 30))),none,0⟩])
(.seq (.cond (.t 32) .skip (.exit 2))
(.seq (.block 3 (.seq (.reg [⟨(some 33),(.q (.iaddr (.slice 1) (.t 29) (.t 31))),none,0⟩,
⟨(some 34),(.q (.ld false 1 (.t 33))),none,0⟩,
⟨(some 11),(.q (.mv (.t 34))),none,0⟩])
(.reg [⟨(some 35),(.q (.mv (.t 5))),none,0⟩,
⟨(some 36),(.q (.mv (.t 6))),none,0⟩,
⟨(some 37),(.q (.mv (.t 11))),none,0⟩,
⟨(some 38),(.q (.bin .mul (.p .int) (.t 36) (.t 37))),none,0⟩,
⟨(some 39),(.q (.bin .add (.p .int) (.t 35) (.t 38))),none,0⟩,
⟨(some 5),(.q (.mv (.t 39))),none,0⟩])))
(.reg [⟨(some 40),(.q (.bin .add (.p .int) (.t 31) (.c (.int .i64 (.ofNat 1))))),none,0⟩,
⟨(some 31),(.q (.mv (.t 40))),none,0⟩])))))))
(.reg [⟨(some 41),(.q (.mv (.t 6))),none,0⟩,
⟨(some 42),(.q (.build [] [])),none,0⟩,
⟨(some 43),(.q (.ld true 6 (.t 8))),none,0⟩,
⟨(some 44),(.x (.call (.c (.fn 52 [] [])) [(.t 42),(.t 43)])),none,0⟩,
⟨(some 45),(.q (.bin .mul (.p .int) (.t 41) (.t 44))),none,0⟩,
⟨(some 6),(.q (.mv (.t 45))),none,0⟩])) .skip))
(.reg [⟨(some 46),(.q (.faddr 3 (.t 8))),none,0⟩,
⟨(some 47),(.q (.ld false 1 (.t 46))),none,0⟩,
⟨(some 48),(.q (.mv (.t 9))),none,0⟩,
⟨(some 49),(.q (.iaddr (.slice 1) (.t 47) (.t 48))),none,0⟩,
⟨(some 50),(.q (.ld false 1 (.t 49))),none,0⟩,
⟨(some 7),(.q (.mv (.t 50))),none,0⟩]))))))))
(.seq (.reg [⟨(some 51),(.q (.mv (.t 5))),none,0⟩,
⟨(some 4),(.q (.mv (.t 51))),none,0⟩])
.ret))))⟩
theorem row33 : Row Tryz.prog (33, a33) := ⟨Tryz.f33, Tryz.func33, by kernel_rfl⟩
noncomputable def a34 : AFn :=
⟨51,[(.cell 6 true 3),(.cell 7 false 1)],(.seq (.reg [⟨(some 3),(.a (.box 25 (.t 0))),none,0⟩,
⟨(some 4),(.a (.box 26 (.t 1))),none,0⟩,
⟨(some 6),(.a (.alloc 46 [(.bool false),.nilsl,.nilsl])),none,0⟩,
⟨(some 7),(.a (.alloc 29 [(.int .i64 (.ofNat 0))])),none,0⟩])
(.seq (.reg [⟨(some 12),(.x (.call (.c (.fn 57 [] [])) [(.c (.int .i64 (.ofNat 0))),(.c (.int .i64 (.ofNat 1)))])),none,0⟩,
⟨(some 11),(.q (.mv (.t 12))),none,0⟩,
⟨(some 13),(.q (.extract (.t 11) 0)),none,0⟩,
⟨(some 14),(.q (.extract (.t 11) 1)),none,0⟩,
⟨(some 8),(.a (.alloc 46 [(.bool false),.nilsl,.nilsl])),none,0⟩,
⟨none,(.x (.st 3 (.t 8) (.t 13))),none,0⟩,
⟨none,(.x (.st 1 (.t 7) (.t 14))),none,0⟩])
(.seq (.reg [⟨(some 15),(.q (.mkFunc 58 [] [(.t 7),(.t 8),(.t 4),(.t 6)])),none,0⟩])
(.seq (.block 1000000 (.seq (.seq (.reg [⟨(some 16),(.q (.faddr 1 (.t 3))),none,0⟩,
⟨(some 17),(.q (.ld false 1 (.t 16))),none,0⟩,
⟨(some 18),(.q (.lenSl (.t 17))),none,0⟩,
⟨(some 19),(.q (.mv (.c (.int .i64 (.ofNat 0))))),none,0⟩])
(.block 0 (.loop (.seq (.reg [⟨(some 20),(.q (.bin .lss (.p .int) (.t 19) (.t 18))),none,0⟩])
(.seq (.cond (.t 20) .skip (.exit 0))
(.seq (.block 1 (.seq (.reg [⟨(some 21),(.q (.mv (.t 19))),none,0⟩,
⟨(some 22),(.q (.iaddr (.slice 6) (.t 17) (.t 19))),none,0⟩,
⟨(some 23),(.q (.ld true 6 (.t 22))),none,0⟩,
⟨(some 10),(.a (.alloc 73 [(.int .i64 (.ofNat 0)),(.int .i64 (.ofNat 0)),(.int .i64 (.ofNat 0)),.nilsl,.nilsl,.nilsl])),none,0⟩,
⟨(some 9),(.q (.mv (.t 21))),none,0⟩,
⟨none,(.x (.st 6 (.t 10) (.t 23))),none,0⟩])
(.seq (.seq (.reg [⟨(some 24),(.q (.ld false 1 (.t 7))),none,0⟩,
⟨(some 25),(.q (.bin .neq (.p .int) (.t 24) (.c (.int .i64 (.ofNat 0))))),none,0⟩])
(.cond (.t 25) (.exit 1000000) .skip))
(.seq (.reg [⟨(some 26),(.q (.faddr 0 (.t 10))),none,0⟩,
⟨(some 27),(.q (.ld false 1 (.t 26))),none,0⟩,
⟨(some 28),(.q (.bin .eql (.p .int) (.t 27) (.c (.int .i64 (.ofNat 3))))),none,0⟩,
⟨(some 29),(.q (.mv (.t 28))),none,0⟩,
⟨(some 30),(.q (.ld false 1 (.t 4))),(some (29,true)),0⟩,
⟨(some 31),(.q (.mv (.t 9))),(some (29,true)),0⟩,
⟨(some 32),(.q (.iaddr (.slice 1) (.t 30) (.t 31))),(some (29,true)),0⟩,
⟨(some 33),(.q (.ld false 1 (.t 32))),(some (29,true)),0⟩,
⟨(some 34),(.q (.bin .gtr (.p .int) (.t 33) (.c (.int .i64 (.ofNat 0))))),(some (29,true)),0⟩,
⟨(some 35),(.q (.pick (.t 29) (.t 34) (.c (.bool false)))),none,0⟩])
(.cond (.t 35) (.drw [⟨(some 37),(.q (.ld true 3 (.t 8))),none,0⟩,
⟨(some 38),(.q (.faddr 5 (.t 10))),none,0⟩,
⟨(some 39),(.q (.ld false 1 (.t 38))),none,2⟩,
⟨(some 40),(.q (.mv (.t 2))),none,0⟩,
⟨(some 41),(.q (.iaddr (.slice 1) (.t 39) (.t 40))),none,14⟩,
⟨(some 42),(.q (.ld false 1 (.t 41))),none,30⟩,
⟨(some 43),(.q (.ld false 1 (.t 4))),none,0⟩,
⟨(some 44),(.q (.mv (.t 9))),none,0⟩,
⟨(some 45),(.q (.iaddr (.slice 1) (.t 43) (.t 44))),none,192⟩,
⟨(some 46),(.q (.ld false 1 (.t 45))),none,448⟩,
⟨(some 47),(.x (.call (.c (.fn 60 [] [])) [(.t 37),(.t 42),(.t 46)])),none,1023⟩,
⟨(some 36),(.q (.mv (.t 47))),none,2047⟩,
⟨(some 48),(.q (.extract (.t 36) 0)),none,4095⟩,
⟨(some 49),(.q (.extract (.t 36) 1)),none,4095⟩,
⟨none,(.x (.st 3 (.t 8) (.t 48))),none,8191⟩,
⟨none,(.x (.st 1 (.t 7) (.t 49))),none,32767⟩]) .skip)))))
(.reg [⟨(some 50),(.q (.bin .add (.p .int) (.t 19) (.c (.int .i64 (.ofNat 1))))),none,0⟩,
⟨(some 19),(.q (.mv (.t 50))),none,0⟩])))))))
(.exit 1000000)))
(.reg [⟨none,(.x (.call (.t 15) [])),none,0⟩])))))⟩
theorem drow34 : cDfn Tryz.prog Tryz.f34 = some (a34, 58) := by kernel_rfl
noncomputable def a39 : AFn :=
⟨31,[(.t 6),(.t 7)],(.seq (.reg [⟨(some 3),(.a (.box 25 (.t 0))),none,0⟩,
⟨(some 4),(.a (.box 61 (.t 1))),none,0⟩,
⟨(some 6),(.q (.mv (.c .nilsl))),none,0⟩,
⟨(some 7),(.q (.mv (.c (.int .i64 (.ofNat 0))))),none,0⟩])
(.seq (.reg [⟨(some 11),(.q (.ld true 3 (.t 3))),none,0⟩,
⟨(some 12),(.q (.ld true 2 (.t 4))),none,0⟩,
⟨(some 13),(.x (.call (.c (.fn 27 [] [])) [(.t 11),(.t 12)])),none,0⟩,
⟨(some 10),(.q (.mv (.t 13))),none,0⟩,
⟨(some 14),(.q (.extract (.t 10) 0)),none,0⟩,
⟨(some 15),(.q (.extract (.t 10) 1)),none,0⟩,
⟨(some 8),(.q (.mv (.t 14))),none,0⟩,
⟨(some 9),(.q (.mv (.t 15))),none,0⟩])
(.seq (.seq (.reg [⟨(some 16),(.q (.mv (.t 9))),none,0⟩,
⟨(some 17),(.q (.bin .neq (.p .int) (.t 16) (.c (.int .i64 (.ofNat 0))))),none,0⟩])
(.cond (.t 17) (.seq (.reg [⟨(some 18),(.q (.mv (.t 9))),none,0⟩,
⟨(some 6),(.q (.mv (.c .nilsl))),none,0⟩,
⟨(some 7),(.q (.mv (.t 18))),none,0⟩])
.ret) .skip))
(.seq (.seq (.reg [⟨(some 19),(.q (.mv (.t 2))),none,0⟩,
⟨(some 20),(.q (.bin .lss (.p .int) (.t 19) (.c (.int .i64 (.ofNat 0))))),none,0⟩,
⟨(some 21),(.q (.mv (.t 20))),none,0⟩,
⟨(some 22),(.q (.mv (.t 2))),(some (21,false)),0⟩,
⟨(some 23),(.q (.mv (.t 8))),(some (21,false)),0⟩,
⟨(some 24),(.q (.bin .geq (.p .int) (.t 22) (.t 23))),(some (21,false)),0⟩,
⟨(some 25),(.q (.pick (.t 21) (.c (.bool true)) (.t 24))),none,0⟩])
(.cond (.t 25) (.seq (.reg [⟨(some 6),(.q (.mv (.c .nilsl))),none,0⟩,
⟨(some 7),(.q (.mv (.c (.int .i64 (.ofNat 2))))),none,0⟩])
.ret) .skip))
(.seq (.reg [⟨(some 26),(.q (.ld true 3 (.t 3))),none,0⟩,
⟨(some 27),(.q (.ld true 2 (.t 4))),none,0⟩,
⟨(some 28),(.q (.mkIface 100 (.t 27))),none,0⟩,
⟨(some 29),(.q (.mv (.t 2))),none,0⟩,
⟨(some 30),(.x (.call (.c (.fn 40 [] [])) [(.t 26),(.t 28),(.t 29)])),none,0⟩,
⟨(some 6),(.q (.mv (.t 30))),none,0⟩,
⟨(some 7),(.q (.mv (.c (.int .i64 (.ofNat 0))))),none,0⟩])
.ret)))))⟩
theorem row39 : Row Tryz.prog (39, a39) := ⟨Tryz.f39, Tryz.func39, by kernel_rfl⟩
noncomputable def a40 : AFn :=
⟨19,[(.t 6)],(.seq (.reg [⟨(some 3),(.a (.box 25 (.t 0))),none,0⟩,
⟨(some 6),(.q (.mv (.c .nilsl))),none,0⟩])
(.seq (.reg [⟨(some 7),(.a (.alloc 26 [.nilsl])),none,0⟩])
(.seq (.seq (.reg [⟨(some 9),(.q (.ld true 3 (.t 3))),none,0⟩,
⟨(some 10),(.q (.mv (.t 1))),none,0⟩,
⟨(some 11),(.q (.mv (.t 2))),none,0⟩,
⟨(some 12),(.x (.call (.c (.fn 67 [] [])) [(.t 9),(.t 10),(.t 11)])),none,0⟩])
(.block 0 (.rng (.t 12) [13] (.reg [⟨(some 8),(.q (.mv (.t 13))),none,0⟩]) (.block 1 (.reg [⟨(some 14),(.q (.ld false 1 (.t 7))),none,0⟩,
⟨(some 15),(.q (.mv (.t 8))),none,0⟩,
⟨(some 16),(.a (.bslice 3 1 1 [(.int .i64 (.ofNat 0))] [(0,(.t 15))])),none,0⟩,
⟨(some 17),(.x (.app 3 1 8 (.t 14) (.t 16))),none,0⟩,
⟨none,(.x (.st 1 (.t 7) (.t 17))),none,0⟩])))))
(.seq (.reg [⟨(some 18),(.q (.ld false 1 (.t 7))),none,0⟩,
⟨(some 6),(.q (.mv (.t 18))),none,0⟩])
.ret))))⟩
theorem row40 : Row Tryz.prog (40, a40) := ⟨Tryz.f40, Tryz.func40, by kernel_rfl⟩
noncomputable def a41 : AFn :=
⟨6,[(.cell 2 true 6)],(.seq (.reg [⟨(some 2),(.a (.alloc 73 [(.int .i64 (.ofNat 0)),(.int .i64 (.ofNat 0)),(.int .i64 (.ofNat 0)),.nilsl,.nilsl,.nilsl])),none,0⟩])
(.seq (.reg [⟨(some 3),(.q (.mv (.t 0))),none,0⟩,
⟨(some 4),(.a (.bslice 3 1 1 [(.int .i64 (.ofNat 0))] [(0,(.t 3))])),none,0⟩,
⟨(some 5),(.q (.build [(.int .i64 (.ofNat 0)),(.int .i64 (.ofNat 0)),(.int .i64 (.ofNat 0)),.nilsl,.nilsl,.nilsl] [(0,1,(.c (.int .i64 (.ofNat 3)))),(5,1,(.t 4))])),none,0⟩,
⟨none,(.x (.st 6 (.t 2) (.t 5))),none,0⟩])
.ret))⟩
theorem row41 : Row Tryz.prog (41, a41) := ⟨Tryz.f41, Tryz.func41, by kernel_rfl⟩
noncomputable def a42 : AFn :=
⟨8,[(.t 2)],(.seq (.reg [⟨(some 2),(.q (.mv (.c .nilsl))),none,0⟩])
(.seq (.seq (.reg [⟨(some 3),(.q (.mv (.t 0))),none,0⟩,
⟨(some 4),(.q (.bin .eql (.p .slice) (.t 3) (.c .nilsl))),none,0⟩])
(.cond (.t 4) (.seq (.reg [⟨(some 2),(.q (.mv (.c .nilsl))),none,0⟩])
.ret) .skip))
(.seq (.reg [⟨(some 5),(.a (.bslice 3 1 0 [(.int .i64 (.ofNat 0))] [])),none,0⟩,
⟨(some 6),(.q (.mv (.t 0))),none,0⟩,
⟨(some 7),(.x (.app 3 1 8 (.t 5) (.t 6))),none,0⟩,
⟨(some 2),(.q (.mv (.t 7))),none,0⟩])
.ret)))⟩
theorem row42 : Row Tryz.prog (42, a42) := ⟨Tryz.f42, Tryz.func42, by kernel_rfl⟩
noncomputable def a43 : AFn :=
⟨15,[(.t 4)],(.seq (.reg [⟨(some 4),(.q (.mv (.c (.int .i64 (.ofNat 0))))),none,0⟩])
(.seq (.block 0 (.loop (.seq (.seq (.reg [⟨(some 5),(.q (.mv (.t 1))),none,0⟩,
⟨(some 6),(.q (.bin .neq (.p .int) (.t 5) (.c (.int .i64 (.ofNat 0))))),none,0⟩])
(.cond (.t 6) .skip (.exit 0)))
(.block 1 (.drw [⟨(some 7),(.q (.mv (.t 1))),none,0⟩,
⟨(some 8),(.q (.mv (.t 0))),none,0⟩,
⟨(some 9),(.q (.mv (.t 1))),none,0⟩,
⟨(some 10),(.q (.bin .rem (.p .int) (.t 8) (.t 9))),none,6⟩,
⟨(some 0),(.q (.mv (.t 7))),none,3⟩,
⟨(some 1),(.q (.mv (.t 10))),none,31⟩])))))
(.seq (.reg [⟨(some 11),(.q (.mv (.t 0))),none,0⟩,
⟨(some 12),(.q (.mv (.t 0))),none,0⟩,
⟨(some 13),(.q (.un .neg (.t 12))),none,0⟩,
⟨(some 14),(.q (.minmax true [(.t 11),(.t 13)])),none,0⟩,
⟨(some 4),(.q (.mv (.t 14))),none,0⟩])
.ret)))⟩
theorem row43 : Row Tryz.prog (43, a43) := ⟨Tryz.f43, Tryz.func43, by kernel_rfl⟩
noncomputable def a44 : AFn :=
⟨15,[(.t 2)],(.seq (.reg [⟨(some 2),(.q (.mv (.c .nilsl))),none,0⟩])
(.seq (.reg [⟨(some 3),(.q (.mv (.c .nilsl))),none,0⟩])
(.seq (.block 0 (.loop (.seq (.seq (.reg [⟨(some 4),(.q (.mv (.t 0))),none,0⟩,
⟨(some 5),(.q (.bin .gtr (.p .int) (.t 4) (.c (.int .i64 (.ofNat 0))))),none,0⟩])
(.cond (.t 5) .skip (.exit 0)))
(.block 1 (.seq (.reg [⟨(some 6),(.q (.mv (.t 3))),none,0⟩,
⟨(some 7),(.q (.mv (.t 0))),none,0⟩,
⟨(some 8),(.q (.bin .rem (.p .int) (.t 7) (.c (.int .i64 (.ofNat 1000000000))))),none,0⟩,
⟨(some 9),(.q (.conv (.int .u32) (.t 8))),none,0⟩,
⟨(some 10),(.a (.bslice 97 1 1 [(.int .u32 (.ofNat 0))] [(0,(.t 9))])),none,0⟩,
⟨(some 11),(.x (.app 97 1 4 (.t 6) (.t 10))),none,0⟩,
⟨(some 3),(.q (.mv (.t 11))),none,0⟩])
(.reg [⟨(some 12),(.q (.mv (.t 0))),none,0⟩,
⟨(some 13),(.q (.bin .quo (.p .int) (.t 12) (.c (.int .i64 (.ofNat 1000000000))))),none,0⟩,
⟨(some 0),(.q (.mv (.t 13))),none,0⟩]))))))
(.seq (.reg [⟨(some 14),(.q (.mv (.t 3))),none,0⟩,
⟨(some 2),(.q (.mv (.t 14))),none,0⟩])
.ret))))⟩
theorem row44 : Row Tryz.prog (44, a44) := ⟨Tryz.f44, Tryz.func44, by kernel_rfl⟩
noncomputable def a47 : AFn :=
⟨11,[(.t 2)],(.seq (.reg [⟨(some 1),(.a (.box 25 (.t 0))),none,0⟩,
⟨(some 2),(.q (.mv (.c (.int .i64 (.ofNat 0))))),none,0⟩])
(.seq (.reg [⟨(some 6),(.q (.ld true 3 (.t 1))),none,0⟩,
⟨(some 7),(.x (.call (.c (.fn 71 [] [])) [(.t 6)])),none,0⟩,
⟨(some 5),(.q (.mv (.t 7))),none,0⟩,
⟨(some 8),(.q (.extract (.t 5) 0)),none,0⟩,
⟨(some 9),(.q (.extract (.t 5) 1)),none,0⟩,
⟨(some 3),(.q (.mv (.t 8))),none,0⟩,
⟨(some 4),(.q (.mv (.t 9))),none,0⟩])
(.seq (.reg [⟨(some 10),(.q (.mv (.t 4))),none,0⟩,
⟨(some 2),(.q (.mv (.t 10))),none,0⟩])
.ret)))⟩
theorem row47 : Row Tryz.prog (47, a47) := ⟨Tryz.f47, Tryz.func47, by kernel_rfl⟩
noncomputable def a48 : AFn :=
⟨56,[],(.seq (.reg [⟨(some 10),(.q (.mv (.t 0))),none,0⟩,
⟨(some 11),(.q (.nilchk (.t 10))),none,0⟩,
⟨(some 12),(.q (.faddr 0 (.t 11))),none,0⟩,
⟨(some 13),(.q (.faddr 1 (.t 12))),none,0⟩,
⟨(some 14),(.q (.ld false 1 (.t 13))),none,0⟩,
⟨(some 15),(.q (.mv (.t 1))),none,0⟩,
⟨(some 16),(.q (.iaddr (.slice 6) (.t 14) (.t 15))),none,0⟩,
⟨(some 17),(.q (.ld true 6 (.t 16))),none,0⟩,
⟨(some 6),(.a (.alloc 73 [(.int .i64 (.ofNat 0)),(.int .i64 (.ofNat 0)),(.int .i64 (.ofNat 0)),.nilsl,.nilsl,.nilsl])),none,0⟩,
⟨none,(.x (.st 6 (.t 6) (.t 17))),none,0⟩])
(.seq (.seq (.reg [⟨(some 18),(.q (.faddr 0 (.t 6))),none,0⟩,
⟨(some 19),(.q (.ld false 1 (.t 18))),none,0⟩])
(.block 0 (.seq (.reg [⟨(some 21),(.q (.bin .eql (.p .int) (.t 19) (.c (.int .i64 (.ofNat 3))))),none,0⟩,
⟨(some 20),(.q (.mv (.t 21))),none,0⟩])
(.cond (.t 20) (.seq (.reg [⟨(some 22),(.q (.mv (.t 0))),none,0⟩,
⟨(some 23),(.q (.mv (.t 2))),none,0⟩,
⟨(some 24),(.x (.call (.c (.fn 72 [] [])) [(.t 22),(.t 23)])),none,0⟩])
.ret) (.seq (.reg [⟨(some 26),(.q (.bin .eql (.p .int) (.t 19) (.c (.int .i64 (.ofNat 1))))),none,0⟩,
⟨(some 25),(.q (.mv (.t 26))),none,0⟩])
(.cond (.t 25) (.seq (.reg [⟨(some 27),(.q (.faddr 4 (.t 6))),none,0⟩,
⟨(some 28),(.q (.ld false 1 (.t 27))),none,0⟩,
⟨(some 29),(.x (.call (.c (.fn 73 [] [])) [(.t 28)])),none,0⟩,
⟨(some 7),(.q (.mv (.t 29))),none,0⟩])
(.seq (.seq (.reg [⟨(some 30),(.q (.mv (.t 2))),none,0⟩,
⟨(some 31),(.q (.mv (.t 7))),none,0⟩,
⟨(some 32),(.q (.bin .quo (.p .int) (.c (.int .i64 (.ofNat 1000000000000000))) (.t 31))),none,0⟩,
⟨(some 33),(.q (.bin .gtr (.p .int) (.t 30) (.t 32))),none,0⟩])
(.cond (.t 33) (.seq (.reg [⟨(some 34),(.q (.mv (.t 0))),none,0⟩,
⟨(some 35),(.q (.nilchk (.t 34))),none,0⟩,
⟨(some 36),(.q (.faddr 4 (.t 35))),none,0⟩,
⟨none,(.x (.st 1 (.t 36) (.c (.bool true)))),none,0⟩])
.ret) .skip))
(.reg [⟨(some 37),(.q (.mv (.t 2))),none,0⟩,
⟨(some 38),(.q (.mv (.t 7))),none,0⟩,
⟨(some 39),(.q (.bin .mul (.p .int) (.t 37) (.t 38))),none,0⟩,
⟨(some 2),(.q (.mv (.t 39))),none,0⟩]))) .skip))))))
(.seq (.reg [⟨(some 40),(.q (.faddr 3 (.t 6))),none,0⟩,
⟨(some 41),(.q (.ld false 1 (.t 40))),none,0⟩,
⟨(some 42),(.q (.lenSl (.t 41))),none,0⟩,
⟨(some 43),(.q (.mv (.c (.int .i64 (.ofNat 0))))),none,0⟩])
(.block 1 (.loop (.seq (.reg [⟨(some 44),(.q (.bin .lss (.p .int) (.t 43) (.t 42))),none,0⟩])
(.seq (.cond (.t 44) .skip (.exit 1))
(.seq (.block 2 (.seq (.reg [⟨(some 45),(.q (.iaddr (.slice 1) (.t 41) (.t 43))),none,0⟩,
⟨(some 46),(.q (.ld false 1 (.t 45))),none,0⟩,
⟨(some 9),(.q (.mv (.t 46))),none,0⟩])
(.seq (.seq (.reg [⟨(some 47),(.q (.mv (.t 0))),none,0⟩,
⟨(some 48),(.q (.nilchk (.t 47))),none,0⟩,
⟨(some 49),(.q (.faddr 4 (.t 48))),none,0⟩,
⟨(some 50),(.q (.ld false 1 (.t 49))),none,0⟩])
(.cond (.t 50) .ret .skip))
(.reg [⟨(some 51),(.q (.mv (.t 0))),none,0⟩,
⟨(some 52),(.q (.mv (.t 9))),none,0⟩,
⟨(some 53),(.q (.mv (.t 2))),none,0⟩,
⟨(some 54),(.x (.call (.c (.fn 48 [] [])) [(.t 51),(.t 52),(.t 53)])),none,0⟩]))))
(.reg [⟨(some 55),(.q (.bin .add (.p .int) (.t 43) (.c (.int .i64 (.ofNat 1))))),none,0⟩,
⟨(some 43),(.q (.mv (.t 55))),none,0⟩])))))))))⟩
theorem row48 : Row Tryz.prog (48, a48) := ⟨Tryz.f48, Tryz.func48, by kernel_rfl⟩
noncomputable def a49 : AFn :=
⟨26,[(.t 4)],(.seq (.reg [⟨(some 4),(.q (.mv (.c (.bool false)))),none,0⟩])
(.seq (.seq (.reg [⟨(some 6),(.q (.mv (.t 0))),none,0⟩,
⟨(some 7),(.q (.lenSl (.t 6))),none,0⟩,
⟨(some 8),(.q (.mv (.t 1))),none,0⟩,
⟨(some 9),(.q (.lenSl (.t 8))),none,0⟩,
⟨(some 10),(.q (.bin .neq (.p .int) (.t 7) (.t 9))),none,0⟩])
(.cond (.t 10) (.seq (.reg [⟨(some 4),(.q (.mv (.c (.bool false)))),none,0⟩])
.ret) .skip))
(.seq (.seq (.reg [⟨(some 5),(.q (.mv (.c (.int .i64 (.ofNat 0))))),none,0⟩])
(.block 0 (.loop (.seq (.seq (.reg [⟨(some 11),(.q (.mv (.t 5))),none,0⟩,
⟨(some 12),(.q (.mv (.t 0))),none,0⟩,
⟨(some 13),(.q (.lenSl (.t 12))),none,0⟩,
⟨(some 14),(.q (.bin .lss (.p .int) (.t 11) (.t 13))),none,0⟩])
(.cond (.t 14) .skip (.exit 0)))
(.seq (.block 1 (.seq (.drw [⟨(some 17),(.q (.mv (.t 0))),none,0⟩,
⟨(some 18),(.q (.mv (.t 5))),none,0⟩,
⟨(some 19),(.q (.iaddr (.slice 1) (.t 17) (.t 18))),none,3⟩,
⟨(some 20),(.q (.ld false 1 (.t 19))),none,7⟩,
⟨(some 21),(.q (.mv (.t 1))),none,0⟩,
⟨(some 22),(.q (.mv (.t 5))),none,0⟩,
⟨(some 23),(.q (.iaddr (.slice 1) (.t 21) (.t 22))),none,48⟩,
⟨(some 24),(.q (.ld false 1 (.t 23))),none,112⟩,
⟨(some 25),(.q (.bin .neq (.p .int) (.t 20) (.t 24))),none,255⟩])
(.cond (.t 25) (.seq (.reg [⟨(some 4),(.q (.mv (.c (.bool false)))),none,0⟩])
.ret) .skip)))
(.reg [⟨(some 15),(.q (.mv (.t 5))),none,0⟩,
⟨(some 16),(.q (.bin .add (.p .int) (.t 15) (.c (.int .i64 (.ofNat 1))))),none,0⟩,
⟨(some 5),(.q (.mv (.t 16))),none,0⟩]))))))
(.seq (.reg [⟨(some 4),(.q (.mv (.c (.bool true)))),none,0⟩])
.ret))))⟩
theorem row49 : Row Tryz.prog (49, a49) := ⟨Tryz.f49, Tryz.func49, by kernel_rfl⟩
noncomputable def a50 : AFn :=
⟨44,[(.t 4)],(.seq (.reg [⟨(some 2),(.a (.box 25 (.t 0))),none,0⟩,
⟨(some 3),(.a (.box 61 (.t 1))),none,0⟩,
⟨(some 4),(.q (.mv (.c (.int .i64 (.ofNat 0))))),none,0⟩])
(.seq (.seq (.reg [⟨(some 9),(.q (.ld true 3 (.t 2))),none,0⟩,
⟨(some 10),(.x (.call (.c (.fn 47 [] [])) [(.t 9)])),none,0⟩,
⟨(some 5),(.q (.mv (.t 10))),none,0⟩])
(.seq (.reg [⟨(some 11),(.q (.mv (.t 5))),none,0⟩,
⟨(some 12),(.q (.bin .neq (.p .int) (.t 11) (.c (.int .i64 (.ofNat 0))))),none,0⟩])
(.cond (.t 12) (.seq (.reg [⟨(some 13),(.q (.mv (.t 5))),none,0⟩,
⟨(some 4),(.q (.mv (.t 13))),none,0⟩])
.ret) .skip)))
(.seq (.seq (.reg [⟨(some 14),(.q (.ld true 2 (.t 3))),none,0⟩,
⟨(some 15),(.x (.call (.c (.fn 74 [] [])) [(.t 14)])),none,0⟩,
⟨(some 6),(.q (.mv (.t 15))),none,0⟩])
(.seq (.reg [⟨(some 16),(.q (.mv (.t 6))),none,0⟩,
⟨(some 17),(.q (.bin .neq (.p .int) (.t 16) (.c (.int .i64 (.ofNat 0))))),none,0⟩])
(.cond (.t 17) (.seq (.reg [⟨(some 18),(.q (.mv (.t 6))),none,0⟩,
⟨(some 4),(.q (.mv (.t 18))),none,0⟩])
.ret) .skip)))
(.seq (.seq (.reg [⟨(some 19),(.q (.faddr 1 (.t 3))),none,0⟩,
⟨(some 20),(.q (.ld false 1 (.t 19))),none,0⟩,
⟨(some 21),(.q (.lenSl (.t 20))),none,0⟩,
⟨(some 22),(.q (.faddr 2 (.t 2))),none,0⟩,
⟨(some 23),(.q (.ld false 1 (.t 22))),none,0⟩,
⟨(some 24),(.q (.lenSl (.t 23))),none,0⟩,
⟨(some 25),(.q (.bin .neq (.p .int) (.t 21) (.t 24))),none,0⟩])
(.cond (.t 25) (.seq (.reg [⟨(some 4),(.q (.mv (.c (.int .i64 (.ofNat 10))))),none,0⟩])
.ret) .skip))
(.seq (.seq (.reg [⟨(some 26),(.q (.faddr 1 (.t 3))),none,0⟩,
⟨(some 27),(.q (.ld false 1 (.t 26))),none,0⟩,
⟨(some 28),(.q (.lenSl (.t 27))),none,0⟩,
⟨(some 29),(.q (.mv (.c (.int .i64 (.ofNat 0))))),none,0⟩])
(.block 0 (.loop (.seq (.reg [⟨(some 30),(.q (.bin .lss (.p .int) (.t 29) (.t 28))),none,0⟩])
(.seq (.cond (.t 30) .skip (.exit 0))
(.seq (.block 1 (.seq (.reg [⟨(some 31),(.q (.mv (.t 29))),none,0⟩,
⟨(some 32),(.q (.iaddr (.slice 1) (.t 27) (.t 29))),none,0⟩,
⟨(some 33),(.q (.ld false 1 (.t 32))),none,0⟩,
⟨(some 7),(.q (.mv (.t 31))),none,0⟩,
⟨(some 8),(.q (.mv (.t 33))),none,0⟩])
(.seq (.reg [⟨(some 34),(.q (.mv (.t 8))),none,0⟩,
⟨(some 35),(.q (.lenSl (.t 34))),none,0⟩,
⟨(some 36),(.q (.faddr 2 (.t 2))),none,0⟩,
⟨(some 37),(.q (.ld false 1 (.t 36))),none,0⟩,
⟨(some 38),(.q (.mv (.t 7))),none,0⟩,
⟨(some 39),(.q (.iaddr (.slice 2) (.t 37) (.t 38))),none,0⟩,
⟨(some 40),(.q (.faddr 1 (.t 39))),none,0⟩,
⟨(some 41),(.q (.ld false 1 (.t 40))),none,0⟩,
⟨(some 42),(.q (.bin .neq (.p .int) (.t 35) (.t 41))),none,0⟩])
(.cond (.t 42) (.seq (.reg [⟨(some 4),(.q (.mv (.c (.int .i64 (.ofNat 10))))),none,0⟩])
.ret) .skip))))
(.reg [⟨(some 43),(.q (.bin .add (.p .int) (.t 29) (.c (.int .i64 (.ofNat 1))))),none,0⟩,
⟨(some 29),(.q (.mv (.t 43))),none,0⟩])))))))
(.seq (.reg [⟨(some 4),(.q (.mv (.c (.int .i64 (.ofNat 0))))),none,0⟩])
.ret))))))⟩
theorem row50 : Row Tryz.prog (50, a50) := ⟨Tryz.f50, Tryz.func50, by kernel_rfl⟩
noncomputable def a51 : AFn :=
⟨83,[(.t 4),(.t 5)],(.seq (.reg [⟨(some 2),(.a (.box 25 (.t 0))),none,0⟩,
⟨(some 4),(.q (.mv (.c (.int .i64 (.ofNat 0))))),none,0⟩,
⟨(some 5),(.q (.mv (.c (.int .i64 (.ofNat 0))))),none,0⟩])
(.seq (.reg [⟨(some 14),(.q (.faddr 1 (.t 2))),none,0⟩,
⟨(some 15),(.q (.ld false 1 (.t 14))),none,0⟩,
⟨(some 16),(.q (.lenSl (.t 15))),none,0⟩,
⟨(some 17),(.a (.mkSlice 3 1 8 [(.int .i64 (.ofNat 0))] (.t 16) (.t 16))),none,0⟩,
⟨(some 6),(.q (.mv (.t 17))),none,0⟩])
(.seq (.reg [⟨(some 18),(.q (.mv (.t 6))),none,0⟩,
⟨(some 19),(.q (.iaddr (.slice 1) (.t 18) (.c (.int .i64 (.ofNat 0))))),none,0⟩,
⟨none,(.x (.st 1 (.t 19) (.c (.int .i64 (.ofNat 1))))),none,0⟩])
(.seq (.reg [⟨(some 7),(.q (.mv (.c (.int .i64 (.ofNat 1))))),none,0⟩])
(.seq (.seq (.reg [⟨(some 20),(.q (.faddr 1 (.t 2))),none,0⟩,
⟨(some 21),(.q (.ld false 1 (.t 20))),none,0⟩,
⟨(some 22),(.q (.lenSl (.t 21))),none,0⟩,
⟨(some 23),(.q (.mv (.c (.int .i64 (.ofNat 0))))),none,0⟩])
(.block 0 (.loop (.seq (.reg [⟨(some 24),(.q (.bin .lss (.p .int) (.t 23) (.t 22))),none,0⟩])
(.seq (.cond (.t 24) .skip (.exit 0))
(.seq (.block 1 (.seq (.reg [⟨(some 25),(.q (.mv (.t 23))),none,0⟩,
⟨(some 26),(.q (.iaddr (.slice 6) (.t 21) (.t 23))),none,0⟩,
⟨(some 27),(.q (.ld true 6 (.t 26))),none,0⟩,
⟨(some 9),(.a (.alloc 73 [(.int .i64 (.ofNat 0)),(.int .i64 (.ofNat 0)),(.int .i64 (.ofNat 0)),.nilsl,.nilsl,.nilsl])),none,0⟩,
⟨(some 8),(.q (.mv (.t 25))),none,0⟩,
⟨none,(.x (.st 6 (.t 9) (.t 27))),none,0⟩])
(.seq (.seq (.reg [⟨(some 28),(.q (.faddr 0 (.t 9))),none,0⟩,
⟨(some 29),(.q (.ld false 1 (.t 28))),none,0⟩,
⟨(some 30),(.q (.bin .eql (.p .int) (.t 29) (.c (.int .i64 (.ofNat 3))))),none,0⟩])
(.cond (.t 30) (.seq (.reg [⟨(some 31),(.q (.mv (.t 7))),none,0⟩,
⟨(some 32),(.q (.mv (.t 7))),none,0⟩,
⟨(some 33),(.q (.mv (.t 6))),none,0⟩,
⟨(some 34),(.q (.mv (.t 8))),none,0⟩,
⟨(some 35),(.q (.iaddr (.slice 1) (.t 33) (.t 34))),none,0⟩,
⟨(some 36),(.q (.ld false 1 (.t 35))),none,0⟩,
⟨(some 37),(.x (.call (.c (.fn 75 [] [])) [(.t 32),(.t 36)])),none,0⟩,
⟨(some 38),(.q (.bin .quo (.p .int) (.t 31) (.t 37))),none,0⟩,
⟨(some 10),(.q (.mv (.t 38))),none,0⟩])
(.seq (.seq (.reg [⟨(some 39),(.q (.mv (.t 10))),none,0⟩,
⟨(some 40),(.q (.mv (.t 6))),none,0⟩,
⟨(some 41),(.q (.mv (.t 8))),none,0⟩,
⟨(some 42),(.q (.iaddr (.slice 1) (.t 40) (.t 41))),none,0⟩,
⟨(some 43),(.q (.ld false 1 (.t 42))),none,0⟩,
⟨(some 44),(.q (.bin .quo (.p .int) (.c (.int .i64 (.ofNat 1000000000000000))) (.t 43))),none,0⟩,
⟨(some 45),(.q (.bin .gtr (.p .int) (.t 39) (.t 44))),none,0⟩])
(.cond (.t 45) (.seq (.reg [⟨(some 4),(.q (.mv (.c (.int .i64 (.ofNat 0))))),none,0⟩,
⟨(some 5),(.q (.mv (.c (.int .i64 (.ofNat 5))))),none,0⟩])
.ret) .skip))
(.seq (.reg [⟨(some 46),(.q (.mv (.t 10))),none,0⟩,
⟨(some 47),(.q (.mv (.t 6))),none,0⟩,
⟨(some 48),(.q (.mv (.t 8))),none,0⟩,
⟨(some 49),(.q (.iaddr (.slice 1) (.t 47) (.t 48))),none,0⟩,
⟨(some 50),(.q (.ld false 1 (.t 49))),none,0⟩,
⟨(some 51),(.q (.bin .mul (.p .int) (.t 46) (.t 50))),none,0⟩,
⟨(some 7),(.q (.mv (.t 51))),none,0⟩])
(.exit 1)))) .skip))
(.seq (.drw [⟨(some 52),(.q (.ld true 6 (.t 9))),none,0⟩,
⟨(some 53),(.q (.mv (.t 1))),none,0⟩,
⟨(some 54),(.x (.call (.c (.fn 76 [] [])) [(.t 52),(.t 53)])),none,3⟩,
⟨(some 55),(.q (.ld true 6 (.t 9))),none,0⟩,
⟨(some 56),(.x (.inv [(65,172,none),(100,174,none),(102,52,none)] (.t 54) [(.t 55)])),none,15⟩,
⟨(some 11),(.q (.mv (.t 56))),none,31⟩])
(.seq (.seq (.reg [⟨(some 57),(.q (.mv (.t 11))),none,0⟩,
⟨(some 58),(.q (.mv (.t 6))),none,0⟩,
⟨(some 59),(.q (.mv (.t 8))),none,0⟩,
⟨(some 60),(.q (.iaddr (.slice 1) (.t 58) (.t 59))),none,0⟩,
⟨(some 61),(.q (.ld false 1 (.t 60))),none,0⟩,
⟨(some 62),(.q (.bin .quo (.p .int) (.c (.int .i64 (.ofNat 1000000000000000))) (.t 61))),none,0⟩,
⟨(some 63),(.q (.bin .gtr (.p .int) (.t 57) (.t 62))),none,0⟩])
(.cond (.t 63) (.seq (.reg [⟨(some 4),(.q (.mv (.c (.int .i64 (.ofNat 0))))),none,0⟩,
⟨(some 5),(.q (.mv (.c (.int .i64 (.ofNat 5))))),none,0⟩])
.ret) .skip))
(.seq (.reg [⟨(some 64),(.q (.faddr 3 (.t 9))),none,0⟩,
⟨(some 65),(.q (.ld false 1 (.t 64))),none,0⟩,
⟨(some 66),(.q (.lenSl (.t 65))),none,0⟩,
⟨(some 67),(.q (.mv (.c (.int .i64 (.ofNat 0))))),none,0⟩])
(.block 2 (.loop (.seq (.reg [⟨(some 68),(.q (.bin .lss (.p .int) (.t 67) (.t 66))),none,0⟩])
(.seq (.cond (.t 68) .skip (.exit 2))
(.seq (.block 3 (.seq (.reg [⟨(some 69),(.q (.iaddr (.slice 1) (.t 65) (.t 67))),none,0⟩,
⟨(some 70),(.q (.ld false 1 (.t 69))),none,0⟩,
⟨(some 13),(.q (.mv (.t 70))),none,0⟩])
(.reg [⟨(some 71),(.q (.mv (.t 6))),none,0⟩,
⟨(some 72),(.q (.mv (.t 13))),none,0⟩,
⟨(some 73),(.q (.mv (.t 6))),none,0⟩,
⟨(some 74),(.q (.mv (.t 8))),none,0⟩,
⟨(some 75),(.q (.iaddr (.slice 1) (.t 73) (.t 74))),none,0⟩,
⟨(some 76),(.q (.ld false 1 (.t 75))),none,0⟩,
⟨(some 77),(.q (.mv (.t 11))),none,0⟩,
⟨(some 78),(.q (.bin .mul (.p .int) (.t 76) (.t 77))),none,0⟩,
⟨(some 79),(.q (.iaddr (.slice 1) (.t 71) (.t 72))),none,0⟩,
⟨none,(.x (.st 1 (.t 79) (.t 78))),none,0⟩])))
(.reg [⟨(some 80),(.q (.bin .add (.p .int) (.t 67) (.c (.int .i64 (.ofNat 1))))),none,0⟩,
⟨(some 67),(.q (.mv (.t 80))),none,0⟩]))))))))))))
(.reg [⟨(some 81),(.q (.bin .add (.p .int) (.t 23) (.c (.int .i64 (.ofNat 1))))),none,0⟩,
⟨(some 23),(.q (.mv (.t 81))),none,0⟩])))))))
(.seq (.reg [⟨(some 82),(.q (.mv (.t 7))),none,0⟩,
⟨(some 4),(.q (.mv (.t 82))),none,0⟩,
⟨(some 5),(.q (.mv (.c (.int .i64 (.ofNat 0))))),none,0⟩])
.ret))))))⟩
theorem row51 : Row Tryz.prog (51, a51) := ⟨Tryz.f51, Tryz.func51, by kernel_rfl⟩
end Go.Proofs.YtiiplmagnlcpbaaGreatDoor.dealKnown
