/- The functions that RatKnown reaches, as data of the evaluator (part 0), written by program; each is shown to be the compiler's result on the loaded function. -/
import Derived.Test.YtopemogpgppjlaaDoorProg
import Derived.Test.YtopemogpgppjlaaDoorEv7
import Derived.KernelRfl
namespace Go.Proofs.YtopemogpgppjlaaDoor.ratKnown
open Go.Ev
set_option maxRecDepth 100000
noncomputable def a5 : AFn :=
⟨21,[(.cell 4 true 3),(.t 5)],(.seq (.reg [⟨(some 4),(.a (.alloc 25 [(.bool false),.nilsl,.nilsl])),none,0⟩,
⟨(some 5),(.q (.mv (.c (.int .i64 (.ofNat 0))))),none,0⟩])
(.seq (.seq (.reg [⟨(some 6),(.q (.mv (.t 1))),none,0⟩,
⟨(some 7),(.q (.bin .eql (.p .int) (.t 6) (.c (.int .i64 (.ofNat 0))))),none,0⟩])
(.cond (.t 7) (.seq (.reg [⟨(some 8),(.q (.build [(.bool false),.nilsl,.nilsl] [])),none,0⟩,
⟨none,(.x (.st 3 (.t 4) (.t 8))),none,0⟩,
⟨(some 5),(.q (.mv (.c (.int .i64 (.ofNat 6))))),none,0⟩])
.ret) .skip))
(.seq (.reg [⟨(some 9),(.q (.mv (.t 0))),none,0⟩,
⟨(some 10),(.q (.bin .lss (.p .int) (.t 9) (.c (.int .i64 (.ofNat 0))))),none,0⟩,
⟨(some 11),(.q (.mv (.t 1))),none,0⟩,
⟨(some 12),(.q (.bin .lss (.p .int) (.t 11) (.c (.int .i64 (.ofNat 0))))),none,0⟩,
⟨(some 13),(.q (.bin .neq (.p .bool) (.t 10) (.t 12))),none,0⟩,
⟨(some 14),(.q (.mv (.t 0))),none,0⟩,
⟨(some 15),(.x (.call (.c (.fn 32 [] [])) [(.t 14)])),none,0⟩,
⟨(some 16),(.x (.call (.c (.fn 31 [] [])) [(.t 15)])),none,0⟩,
⟨(some 17),(.q (.mv (.t 1))),none,0⟩,
⟨(some 18),(.x (.call (.c (.fn 32 [] [])) [(.t 17)])),none,0⟩,
⟨(some 19),(.x (.call (.c (.fn 31 [] [])) [(.t 18)])),none,0⟩,
⟨(some 20),(.x (.call (.c (.fn 30 [] [])) [(.t 13),(.t 16),(.t 19)])),none,0⟩,
⟨none,(.x (.st 3 (.t 4) (.t 20))),none,0⟩,
⟨(some 5),(.q (.mv (.c (.int .i64 (.ofNat 0))))),none,0⟩])
.ret)))⟩
theorem row5 : Row Tryd.prog (5, a5) := ⟨Tryd.f5, Tryd.func5, by kernel_rfl⟩
noncomputable def a6 : AFn :=
⟨20,[(.cell 6 true 3),(.t 7)],(.seq (.reg [⟨(some 6),(.a (.alloc 25 [(.bool false),.nilsl,.nilsl])),none,0⟩,
⟨(some 7),(.q (.mv (.c (.int .i64 (.ofNat 0))))),none,0⟩])
(.seq (.seq (.reg [⟨(some 9),(.q (.mv (.t 1))),none,0⟩,
⟨(some 10),(.q (.mv (.t 2))),none,0⟩,
⟨(some 11),(.x (.call (.c (.fn 33 [] [])) [(.t 9),(.t 10)])),none,0⟩,
⟨(some 8),(.q (.mv (.t 11))),none,0⟩])
(.seq (.reg [⟨(some 12),(.q (.mv (.t 8))),none,0⟩,
⟨(some 13),(.q (.bin .neq (.p .int) (.t 12) (.c (.int .i64 (.ofNat 0))))),none,0⟩])
(.cond (.t 13) (.seq (.reg [⟨(some 14),(.q (.build [(.bool false),.nilsl,.nilsl] [])),none,0⟩,
⟨(some 15),(.q (.mv (.t 8))),none,0⟩,
⟨none,(.x (.st 3 (.t 6) (.t 14))),none,0⟩,
⟨(some 7),(.q (.mv (.t 15))),none,0⟩])
.ret) .skip)))
(.seq (.reg [⟨(some 16),(.q (.mv (.t 0))),none,0⟩,
⟨(some 17),(.q (.mv (.t 1))),none,0⟩,
⟨(some 18),(.q (.mv (.t 2))),none,0⟩,
⟨(some 19),(.x (.call (.c (.fn 30 [] [])) [(.t 16),(.t 17),(.t 18)])),none,0⟩,
⟨none,(.x (.st 3 (.t 6) (.t 19))),none,0⟩,
⟨(some 7),(.q (.mv (.c (.int .i64 (.ofNat 0))))),none,0⟩])
.ret)))⟩
theorem row6 : Row Tryd.prog (6, a6) := ⟨Tryd.f6, Tryd.func6, by kernel_rfl⟩
noncomputable def a7 : AFn :=
⟨18,[(.t 8)],(.seq (.reg [⟨(some 4),(.a (.box 25 (.t 0))),none,0⟩,
⟨(some 8),(.q (.mv (.c (.bool false)))),none,0⟩])
(.seq (.drw [⟨(some 9),(.q (.mv (.t 1))),none,0⟩,
⟨(some 10),(.q (.bin .eql (.p .int) (.t 9) (.c (.int .i64 (.ofNat 0))))),none,1⟩,
⟨(some 11),(.q (.mv (.t 10))),none,3⟩,
⟨(some 12),(.q (.ld true 3 (.t 4))),(some (11,true)),7⟩,
⟨(some 13),(.q (.mv (.t 2))),(some (11,true)),7⟩,
⟨(some 14),(.q (.mv (.t 3))),(some (11,true)),7⟩,
⟨(some 15),(.x (.call (.c (.fn 9 [] [])) [(.t 13),(.t 14)])),(some (11,true)),55⟩,
⟨(some 16),(.x (.call (.c (.fn 34 [] [])) [(.t 12),(.t 15)])),(some (11,true)),127⟩,
⟨(some 17),(.q (.pick (.t 11) (.t 16) (.c (.bool false)))),none,255⟩,
⟨(some 8),(.q (.mv (.t 17))),none,511⟩])
.ret))⟩
theorem row7 : Row Tryd.prog (7, a7) := ⟨Tryd.f7, Tryd.func7, by kernel_rfl⟩
noncomputable def a8 : AFn :=
⟨28,[(.cell 4 true 3),(.t 5)],(.seq (.reg [⟨(some 2),(.a (.box 25 (.t 0))),none,0⟩,
⟨(some 3),(.a (.box 25 (.t 1))),none,0⟩,
⟨(some 4),(.a (.alloc 25 [(.bool false),.nilsl,.nilsl])),none,0⟩,
⟨(some 5),(.q (.mv (.c (.int .i64 (.ofNat 0))))),none,0⟩])
(.seq (.seq (.reg [⟨(some 8),(.q (.ld true 3 (.t 2))),none,0⟩,
⟨(some 9),(.q (.ld true 3 (.t 3))),none,0⟩,
⟨(some 10),(.x (.call (.c (.fn 35 [] [])) [(.t 8),(.t 9)])),none,0⟩,
⟨(some 6),(.q (.mv (.t 10))),none,0⟩])
(.seq (.reg [⟨(some 11),(.q (.mv (.t 6))),none,0⟩,
⟨(some 12),(.q (.bin .neq (.p .int) (.t 11) (.c (.int .i64 (.ofNat 0))))),none,0⟩])
(.cond (.t 12) (.seq (.reg [⟨(some 13),(.q (.build [(.bool false),.nilsl,.nilsl] [])),none,0⟩,
⟨(some 14),(.q (.mv (.t 6))),none,0⟩,
⟨none,(.x (.st 3 (.t 4) (.t 13))),none,0⟩,
⟨(some 5),(.q (.mv (.t 14))),none,0⟩])
.ret) .skip)))
(.seq (.reg [⟨(some 15),(.x (.call (.c (.fn 37 [] [])) [])),none,0⟩,
⟨(some 16),(.x (.call (.c (.fn 36 [] [])) [(.c (.bool false)),(.t 15)])),none,0⟩,
⟨(some 7),(.a (.alloc 25 [(.bool false),.nilsl,.nilsl])),none,0⟩,
⟨none,(.x (.st 3 (.t 7) (.t 16))),none,0⟩])
(.seq (.drw [⟨(some 17),(.q (.ld true 3 (.t 2))),none,0⟩,
⟨(some 18),(.q (.ld true 3 (.t 7))),none,0⟩,
⟨(some 19),(.q (.build [(.bool false),.nilsl,.nilsl,(.bool false),.nilsl,.nilsl] [(0,3,(.t 17)),(3,3,(.t 18))])),none,3⟩,
⟨(some 20),(.q (.ld true 3 (.t 3))),none,0⟩,
⟨(some 21),(.x (.call (.c (.fn 39 [] [])) [(.t 20)])),none,8⟩,
⟨(some 22),(.q (.ld true 3 (.t 7))),none,0⟩,
⟨(some 23),(.q (.build [(.bool false),.nilsl,.nilsl,(.bool false),.nilsl,.nilsl] [(0,3,(.t 21)),(3,3,(.t 22))])),none,56⟩,
⟨(some 24),(.a (.bslice 61 6 2 [(.bool false),.nilsl,.nilsl,(.bool false),.nilsl,.nilsl] [(0,(.t 19)),(1,(.t 23))])),none,127⟩,
⟨(some 25),(.x (.call (.c (.fn 38 [] [])) [(.t 24)])),none,255⟩,
⟨(some 26),(.q (.extract (.t 25) 0)),none,511⟩,
⟨(some 27),(.q (.extract (.t 25) 1)),none,511⟩,
⟨none,(.x (.st 3 (.t 4) (.t 26))),none,2047⟩,
⟨(some 5),(.q (.mv (.t 27))),none,4095⟩])
.ret))))⟩
theorem row8 : Row Tryd.prog (8, a8) := ⟨Tryd.f8, Tryd.func8, by kernel_rfl⟩
noncomputable def a9 : AFn :=
⟨8,[(.cell 4 true 3)],(.seq (.reg [⟨(some 4),(.a (.alloc 25 [(.bool false),.nilsl,.nilsl])),none,0⟩])
(.seq (.reg [⟨(some 5),(.q (.mv (.t 0))),none,0⟩,
⟨(some 6),(.q (.mv (.t 1))),none,0⟩,
⟨(some 7),(.x (.call (.c (.fn 40 [] [])) [(.t 5),(.t 6)])),none,0⟩,
⟨none,(.x (.st 3 (.t 4) (.t 7))),none,0⟩])
.ret))⟩
theorem row9 : Row Tryd.prog (9, a9) := ⟨Tryd.f9, Tryd.func9, by kernel_rfl⟩
noncomputable def a10 : AFn :=
⟨26,[(.cell 4 true 3),(.t 5)],(.seq (.reg [⟨(some 2),(.a (.box 25 (.t 0))),none,0⟩,
⟨(some 3),(.a (.box 25 (.t 1))),none,0⟩,
⟨(some 4),(.a (.alloc 25 [(.bool false),.nilsl,.nilsl])),none,0⟩,
⟨(some 5),(.q (.mv (.c (.int .i64 (.ofNat 0))))),none,0⟩])
(.seq (.seq (.reg [⟨(some 7),(.q (.ld true 3 (.t 2))),none,0⟩,
⟨(some 8),(.q (.ld true 3 (.t 3))),none,0⟩,
⟨(some 9),(.x (.call (.c (.fn 35 [] [])) [(.t 7),(.t 8)])),none,0⟩,
⟨(some 6),(.q (.mv (.t 9))),none,0⟩])
(.seq (.reg [⟨(some 10),(.q (.mv (.t 6))),none,0⟩,
⟨(some 11),(.q (.bin .neq (.p .int) (.t 10) (.c (.int .i64 (.ofNat 0))))),none,0⟩])
(.cond (.t 11) (.seq (.reg [⟨(some 12),(.q (.build [(.bool false),.nilsl,.nilsl] [])),none,0⟩,
⟨(some 13),(.q (.mv (.t 6))),none,0⟩,
⟨none,(.x (.st 3 (.t 4) (.t 12))),none,0⟩,
⟨(some 5),(.q (.mv (.t 13))),none,0⟩])
.ret) .skip)))
(.seq (.seq (.reg [⟨(some 14),(.q (.ld true 3 (.t 3))),none,0⟩,
⟨(some 15),(.x (.call (.c (.fn 41 [] [])) [(.t 14)])),none,0⟩,
⟨(some 16),(.q (.bin .eql (.p .int) (.t 15) (.c (.int .i64 (.ofNat 1))))),none,0⟩])
(.cond (.t 16) (.seq (.reg [⟨(some 17),(.q (.build [(.bool false),.nilsl,.nilsl] [])),none,0⟩,
⟨none,(.x (.st 3 (.t 4) (.t 17))),none,0⟩,
⟨(some 5),(.q (.mv (.c (.int .i64 (.ofNat 6))))),none,0⟩])
.ret) .skip))
(.seq (.drw [⟨(some 18),(.q (.ld true 3 (.t 2))),none,0⟩,
⟨(some 19),(.q (.ld true 3 (.t 3))),none,0⟩,
⟨(some 20),(.x (.call (.c (.fn 42 [] [])) [(.t 19)])),none,2⟩,
⟨(some 21),(.q (.build [(.bool false),.nilsl,.nilsl,(.bool false),.nilsl,.nilsl] [(0,3,(.t 18)),(3,3,(.t 20))])),none,7⟩,
⟨(some 22),(.a (.bslice 61 6 1 [(.bool false),.nilsl,.nilsl,(.bool false),.nilsl,.nilsl] [(0,(.t 21))])),none,15⟩,
⟨(some 23),(.x (.call (.c (.fn 38 [] [])) [(.t 22)])),none,31⟩,
⟨(some 24),(.q (.extract (.t 23) 0)),none,63⟩,
⟨(some 25),(.q (.extract (.t 23) 1)),none,63⟩,
⟨none,(.x (.st 3 (.t 4) (.t 24))),none,255⟩,
⟨(some 5),(.q (.mv (.t 25))),none,511⟩])
.ret))))⟩
theorem row10 : Row Tryd.prog (10, a10) := ⟨Tryd.f10, Tryd.func10, by kernel_rfl⟩
noncomputable def a11 : AFn :=
⟨46,[(.t 4),(.t 5)],(.seq (.reg [⟨(some 2),(.a (.box 25 (.t 0))),none,0⟩,
⟨(some 3),(.a (.box 25 (.t 1))),none,0⟩,
⟨(some 4),(.q (.mv (.c (.int .i64 (.ofNat 0))))),none,0⟩,
⟨(some 5),(.q (.mv (.c (.int .i64 (.ofNat 0))))),none,0⟩])
(.seq (.seq (.reg [⟨(some 9),(.q (.ld true 3 (.t 2))),none,0⟩,
⟨(some 10),(.q (.ld true 3 (.t 3))),none,0⟩,
⟨(some 11),(.x (.call (.c (.fn 35 [] [])) [(.t 9),(.t 10)])),none,0⟩,
⟨(some 6),(.q (.mv (.t 11))),none,0⟩])
(.seq (.reg [⟨(some 12),(.q (.mv (.t 6))),none,0⟩,
⟨(some 13),(.q (.bin .neq (.p .int) (.t 12) (.c (.int .i64 (.ofNat 0))))),none,0⟩])
(.cond (.t 13) (.seq (.reg [⟨(some 14),(.q (.mv (.t 6))),none,0⟩,
⟨(some 4),(.q (.mv (.c (.int .i64 (.ofNat 0))))),none,0⟩,
⟨(some 5),(.q (.mv (.t 14))),none,0⟩])
.ret) .skip)))
(.seq (.drw [⟨(some 15),(.q (.ld true 3 (.t 2))),none,0⟩,
⟨(some 16),(.x (.call (.c (.fn 41 [] [])) [(.t 15)])),none,1⟩,
⟨(some 17),(.q (.ld true 3 (.t 3))),none,0⟩,
⟨(some 18),(.x (.call (.c (.fn 41 [] [])) [(.t 17)])),none,7⟩,
⟨(some 7),(.q (.mv (.t 16))),none,15⟩,
⟨(some 8),(.q (.mv (.t 18))),none,31⟩])
(.seq (.block 0 (.seq (.reg [⟨(some 20),(.q (.mv (.t 7))),none,0⟩,
⟨(some 21),(.q (.mv (.t 8))),none,0⟩,
⟨(some 22),(.q (.bin .lss (.p .int) (.t 20) (.t 21))),none,0⟩,
⟨(some 19),(.q (.mv (.t 22))),none,0⟩])
(.cond (.t 19) (.seq (.reg [⟨(some 23),(.q (.iaddr (.arr 3 1) (.c (.ptr 0 0)) (.c (.int .i64 (.ofNat 0))))),none,0⟩,
⟨(some 24),(.q (.ld false 1 (.t 23))),none,0⟩,
⟨(some 4),(.q (.mv (.t 24))),none,0⟩,
⟨(some 5),(.q (.mv (.c (.int .i64 (.ofNat 0))))),none,0⟩])
.ret) (.seq (.reg [⟨(some 26),(.q (.mv (.t 7))),none,0⟩,
⟨(some 27),(.q (.mv (.t 8))),none,0⟩,
⟨(some 28),(.q (.bin .gtr (.p .int) (.t 26) (.t 27))),none,0⟩,
⟨(some 25),(.q (.mv (.t 28))),none,0⟩])
(.cond (.t 25) (.seq (.reg [⟨(some 29),(.q (.iaddr (.arr 3 1) (.c (.ptr 0 0)) (.c (.int .i64 (.ofNat 2))))),none,0⟩,
⟨(some 30),(.q (.ld false 1 (.t 29))),none,0⟩,
⟨(some 4),(.q (.mv (.t 30))),none,0⟩,
⟨(some 5),(.q (.mv (.c (.int .i64 (.ofNat 0))))),none,0⟩])
.ret) .skip)))))
(.seq (.drw [⟨(some 31),(.q (.mv (.t 7))),none,0⟩,
⟨(some 32),(.q (.iaddr (.arr 3 1) (.c (.ptr 0 0)) (.t 31))),none,1⟩,
⟨(some 33),(.q (.ld false 1 (.t 32))),none,3⟩,
⟨(some 34),(.q (.faddr 1 (.t 2))),none,0⟩,
⟨(some 35),(.q (.ld false 1 (.t 34))),none,8⟩,
⟨(some 36),(.q (.faddr 2 (.t 3))),none,0⟩,
⟨(some 37),(.q (.ld false 1 (.t 36))),none,32⟩,
⟨(some 38),(.x (.call (.c (.fn 44 [] [])) [(.t 35),(.t 37)])),none,120⟩,
⟨(some 39),(.q (.faddr 1 (.t 3))),none,0⟩,
⟨(some 40),(.q (.ld false 1 (.t 39))),none,256⟩,
⟨(some 41),(.q (.faddr 2 (.t 2))),none,0⟩,
⟨(some 42),(.q (.ld false 1 (.t 41))),none,1024⟩,
⟨(some 43),(.x (.call (.c (.fn 44 [] [])) [(.t 40),(.t 42)])),none,4088⟩,
⟨(some 44),(.x (.call (.c (.fn 43 [] [])) [(.t 38),(.t 43)])),none,8184⟩,
⟨(some 45),(.q (.bin .mul (.p .int) (.t 33) (.t 44))),none,16383⟩,
⟨(some 4),(.q (.mv (.t 45))),none,32767⟩,
⟨(some 5),(.q (.mv (.c (.int .i64 (.ofNat 0))))),none,65535⟩])
.ret)))))⟩
theorem row11 : Row Tryd.prog (11, a11) := ⟨Tryd.f11, Tryd.func11, by kernel_rfl⟩
noncomputable def a12 : AFn :=
⟨24,[(.cell 2 true 3),(.t 3)],(.seq (.reg [⟨(some 1),(.a (.box 25 (.t 0))),none,0⟩,
⟨(some 2),(.a (.alloc 25 [(.bool false),.nilsl,.nilsl])),none,0⟩,
⟨(some 3),(.q (.mv (.c (.int .i64 (.ofNat 0))))),none,0⟩])
(.seq (.seq (.reg [⟨(some 5),(.q (.ld true 3 (.t 1))),none,0⟩,
⟨(some 6),(.x (.call (.c (.fn 16 [] [])) [(.t 5)])),none,0⟩,
⟨(some 4),(.q (.mv (.t 6))),none,0⟩])
(.seq (.reg [⟨(some 7),(.q (.mv (.t 4))),none,0⟩,
⟨(some 8),(.q (.bin .neq (.p .int) (.t 7) (.c (.int .i64 (.ofNat 0))))),none,0⟩])
(.cond (.t 8) (.seq (.reg [⟨(some 9),(.q (.build [(.bool false),.nilsl,.nilsl] [])),none,0⟩,
⟨(some 10),(.q (.mv (.t 4))),none,0⟩,
⟨none,(.x (.st 3 (.t 2) (.t 9))),none,0⟩,
⟨(some 3),(.q (.mv (.t 10))),none,0⟩])
.ret) .skip)))
(.seq (.reg [⟨(some 11),(.q (.faddr 0 (.t 1))),none,0⟩,
⟨(some 12),(.q (.ld false 1 (.t 11))),none,0⟩,
⟨(some 13),(.q (.faddr 1 (.t 1))),none,0⟩,
⟨(some 14),(.q (.ld false 1 (.t 13))),none,0⟩,
⟨(some 15),(.q (.faddr 2 (.t 1))),none,0⟩,
⟨(some 16),(.q (.ld false 1 (.t 15))),none,0⟩,
⟨(some 17),(.x (.call (.c (.fn 46 [] [])) [(.t 12),(.t 14),(.t 16)])),none,0⟩,
⟨(some 18),(.q (.extract (.t 17) 0)),none,0⟩,
⟨(some 19),(.q (.extract (.t 17) 1)),none,0⟩,
⟨(some 20),(.x (.call (.c (.fn 36 [] [])) [(.t 18),(.t 19)])),none,0⟩,
⟨(some 21),(.x (.call (.c (.fn 45 [] [])) [(.t 20)])),none,0⟩,
⟨(some 22),(.q (.extract (.t 21) 0)),none,0⟩,
⟨(some 23),(.q (.extract (.t 21) 1)),none,0⟩,
⟨none,(.x (.st 3 (.t 2) (.t 22))),none,0⟩,
⟨(some 3),(.q (.mv (.t 23))),none,0⟩])
.ret)))⟩
theorem row12 : Row Tryd.prog (12, a12) := ⟨Tryd.f12, Tryd.func12, by kernel_rfl⟩
noncomputable def a13 : AFn :=
⟨31,[(.cell 2 true 3),(.t 3)],(.seq (.reg [⟨(some 1),(.a (.box 25 (.t 0))),none,0⟩,
⟨(some 2),(.a (.alloc 25 [(.bool false),.nilsl,.nilsl])),none,0⟩,
⟨(some 3),(.q (.mv (.c (.int .i64 (.ofNat 0))))),none,0⟩])
(.seq (.seq (.reg [⟨(some 7),(.q (.ld true 3 (.t 1))),none,0⟩,
⟨(some 8),(.x (.call (.c (.fn 16 [] [])) [(.t 7)])),none,0⟩,
⟨(some 4),(.q (.mv (.t 8))),none,0⟩])
(.seq (.reg [⟨(some 9),(.q (.mv (.t 4))),none,0⟩,
⟨(some 10),(.q (.bin .neq (.p .int) (.t 9) (.c (.int .i64 (.ofNat 0))))),none,0⟩])
(.cond (.t 10) (.seq (.reg [⟨(some 11),(.q (.build [(.bool false),.nilsl,.nilsl] [])),none,0⟩,
⟨(some 12),(.q (.mv (.t 4))),none,0⟩,
⟨none,(.x (.st 3 (.t 2) (.t 11))),none,0⟩,
⟨(some 3),(.q (.mv (.t 12))),none,0⟩])
.ret) .skip)))
(.seq (.reg [⟨(some 14),(.q (.faddr 0 (.t 1))),none,0⟩,
⟨(some 15),(.q (.ld false 1 (.t 14))),none,0⟩,
⟨(some 16),(.q (.un .not (.t 15))),none,0⟩,
⟨(some 17),(.q (.faddr 1 (.t 1))),none,0⟩,
⟨(some 18),(.q (.ld false 1 (.t 17))),none,0⟩,
⟨(some 19),(.q (.faddr 2 (.t 1))),none,0⟩,
⟨(some 20),(.q (.ld false 1 (.t 19))),none,0⟩,
⟨(some 21),(.x (.call (.c (.fn 46 [] [])) [(.t 16),(.t 18),(.t 20)])),none,0⟩,
⟨(some 13),(.q (.mv (.t 21))),none,0⟩,
⟨(some 22),(.q (.extract (.t 13) 0)),none,0⟩,
⟨(some 23),(.q (.extract (.t 13) 1)),none,0⟩,
⟨(some 5),(.q (.mv (.t 22))),none,0⟩,
⟨(some 6),(.q (.mv (.t 23))),none,0⟩])
(.seq (.reg [⟨(some 24),(.q (.mv (.t 5))),none,0⟩,
⟨(some 25),(.q (.un .not (.t 24))),none,0⟩,
⟨(some 26),(.q (.mv (.t 6))),none,0⟩,
⟨(some 27),(.x (.call (.c (.fn 36 [] [])) [(.t 25),(.t 26)])),none,0⟩,
⟨(some 28),(.x (.call (.c (.fn 45 [] [])) [(.t 27)])),none,0⟩,
⟨(some 29),(.q (.extract (.t 28) 0)),none,0⟩,
⟨(some 30),(.q (.extract (.t 28) 1)),none,0⟩,
⟨none,(.x (.st 3 (.t 2) (.t 29))),none,0⟩,
⟨(some 3),(.q (.mv (.t 30))),none,0⟩])
.ret))))⟩
theorem row13 : Row Tryd.prog (13, a13) := ⟨Tryd.f13, Tryd.func13, by kernel_rfl⟩
noncomputable def a14 : AFn :=
⟨62,[(.t 4),(.t 5)],(.seq (.reg [⟨(some 2),(.a (.box 25 (.t 0))),none,0⟩,
⟨(some 4),(.q (.mv (.c (.int .i64 (.ofNat 0))))),none,0⟩,
⟨(some 5),(.q (.mv (.c (.int .i64 (.ofNat 0))))),none,0⟩])
(.seq (.seq (.reg [⟨(some 11),(.q (.ld true 3 (.t 2))),none,0⟩,
⟨(some 12),(.x (.call (.c (.fn 16 [] [])) [(.t 11)])),none,0⟩,
⟨(some 6),(.q (.mv (.t 12))),none,0⟩])
(.seq (.reg [⟨(some 13),(.q (.mv (.t 6))),none,0⟩,
⟨(some 14),(.q (.bin .neq (.p .int) (.t 13) (.c (.int .i64 (.ofNat 0))))),none,0⟩])
(.cond (.t 14) (.seq (.reg [⟨(some 15),(.q (.mv (.t 6))),none,0⟩,
⟨(some 4),(.q (.mv (.c (.int .i64 (.ofNat 0))))),none,0⟩,
⟨(some 5),(.q (.mv (.t 15))),none,0⟩])
.ret) .skip)))
(.seq (.drw [⟨(some 17),(.q (.faddr 0 (.t 2))),none,0⟩,
⟨(some 18),(.q (.ld false 1 (.t 17))),none,1⟩,
⟨(some 19),(.q (.mv (.t 1))),none,0⟩,
⟨(some 20),(.q (.bin .lss (.p .int) (.t 19) (.c (.int .i64 (.ofNat 0))))),none,4⟩,
⟨(some 21),(.q (.bin .neq (.p .bool) (.t 18) (.t 20))),none,15⟩,
⟨(some 22),(.q (.faddr 1 (.t 2))),none,0⟩,
⟨(some 23),(.q (.ld false 1 (.t 22))),none,32⟩,
⟨(some 24),(.q (.mv (.t 1))),none,0⟩,
⟨(some 25),(.x (.call (.c (.fn 32 [] [])) [(.t 24)])),none,128⟩,
⟨(some 26),(.x (.call (.c (.fn 31 [] [])) [(.t 25)])),none,384⟩,
⟨(some 27),(.x (.call (.c (.fn 44 [] [])) [(.t 23),(.t 26)])),none,992⟩,
⟨(some 28),(.q (.faddr 2 (.t 2))),none,0⟩,
⟨(some 29),(.q (.ld false 1 (.t 28))),none,2048⟩,
⟨(some 30),(.x (.call (.c (.fn 46 [] [])) [(.t 21),(.t 27),(.t 29)])),none,8191⟩,
⟨(some 16),(.q (.mv (.t 30))),none,16383⟩,
⟨(some 31),(.q (.extract (.t 16) 0)),none,32767⟩,
⟨(some 32),(.q (.extract (.t 16) 1)),none,32767⟩,
⟨(some 7),(.q (.mv (.t 31))),none,65535⟩,
⟨(some 8),(.q (.mv (.t 32))),none,262143⟩])
(.seq (.reg [⟨(some 34),(.q (.mv (.t 8))),none,0⟩,
⟨(some 35),(.x (.call (.c (.fn 47 [] [])) [(.t 34)])),none,0⟩,
⟨(some 33),(.q (.mv (.t 35))),none,0⟩,
⟨(some 36),(.q (.extract (.t 33) 0)),none,0⟩,
⟨(some 37),(.q (.extract (.t 33) 1)),none,0⟩,
⟨(some 9),(.q (.mv (.t 36))),none,0⟩,
⟨(some 10),(.q (.mv (.t 37))),none,0⟩])
(.seq (.block 0 (.seq (.reg [⟨(some 39),(.q (.mv (.t 10))),none,0⟩,
⟨(some 40),(.q (.mv (.t 39))),none,0⟩,
⟨(some 41),(.q (.mv (.t 7))),(some (40,true)),0⟩,
⟨(some 42),(.q (.un .not (.t 41))),(some (40,true)),0⟩,
⟨(some 43),(.q (.pick (.t 40) (.t 42) (.c (.bool false)))),none,0⟩,
⟨(some 44),(.q (.mv (.t 43))),none,0⟩,
⟨(some 45),(.q (.mv (.t 9))),(some (44,true)),0⟩,
⟨(some 46),(.q (.bin .leq (.p .int) (.t 45) (.c (.int .u64 (.ofNat 9223372036854775807))))),(some (44,true)),0⟩,
⟨(some 47),(.q (.pick (.t 44) (.t 46) (.c (.bool false)))),none,0⟩,
⟨(some 38),(.q (.mv (.t 47))),none,0⟩])
(.cond (.t 38) (.seq (.reg [⟨(some 48),(.q (.mv (.t 9))),none,0⟩,
⟨(some 49),(.q (.conv (.int .i64) (.t 48))),none,0⟩,
⟨(some 4),(.q (.mv (.t 49))),none,0⟩,
⟨(some 5),(.q (.mv (.c (.int .i64 (.ofNat 0))))),none,0⟩])
.ret) (.seq (.reg [⟨(some 51),(.q (.mv (.t 10))),none,0⟩,
⟨(some 52),(.q (.mv (.t 51))),none,0⟩,
⟨(some 53),(.q (.mv (.t 7))),(some (52,true)),0⟩,
⟨(some 54),(.q (.pick (.t 52) (.t 53) (.c (.bool false)))),none,0⟩,
⟨(some 55),(.q (.mv (.t 54))),none,0⟩,
⟨(some 56),(.q (.mv (.t 9))),(some (55,true)),0⟩,
⟨(some 57),(.q (.bin .leq (.p .int) (.t 56) (.c (.int .u64 (.ofNat 9223372036854775808))))),(some (55,true)),0⟩,
⟨(some 58),(.q (.pick (.t 55) (.t 57) (.c (.bool false)))),none,0⟩,
⟨(some 50),(.q (.mv (.t 58))),none,0⟩])
(.cond (.t 50) (.seq (.reg [⟨(some 59),(.q (.mv (.t 9))),none,0⟩,
⟨(some 60),(.q (.un .neg (.t 59))),none,0⟩,
⟨(some 61),(.q (.conv (.int .i64) (.t 60))),none,0⟩,
⟨(some 4),(.q (.mv (.t 61))),none,0⟩,
⟨(some 5),(.q (.mv (.c (.int .i64 (.ofNat 0))))),none,0⟩])
.ret) .skip)))))
(.seq (.reg [⟨(some 4),(.q (.mv (.c (.int .i64 (.ofNat 0))))),none,0⟩,
⟨(some 5),(.q (.mv (.c (.int .i64 (.ofNat 5))))),none,0⟩])
.ret))))))⟩
theorem row14 : Row Tryd.prog (14, a14) := ⟨Tryd.f14, Tryd.func14, by kernel_rfl⟩
noncomputable def a15 : AFn :=
⟨50,[(.cell 4 true 3),(.t 5)],(.seq (.reg [⟨(some 2),(.a (.box 25 (.t 0))),none,0⟩,
⟨(some 3),(.a (.box 25 (.t 1))),none,0⟩,
⟨(some 4),(.a (.alloc 25 [(.bool false),.nilsl,.nilsl])),none,0⟩,
⟨(some 5),(.q (.mv (.c (.int .i64 (.ofNat 0))))),none,0⟩])
(.seq (.reg [⟨(some 9),(.q (.ld true 3 (.t 2))),none,0⟩,
⟨(some 10),(.q (.ld true 3 (.t 3))),none,0⟩,
⟨(some 11),(.x (.call (.c (.fn 11 [] [])) [(.t 9),(.t 10)])),none,0⟩,
⟨(some 8),(.q (.mv (.t 11))),none,0⟩,
⟨(some 12),(.q (.extract (.t 8) 0)),none,0⟩,
⟨(some 13),(.q (.extract (.t 8) 1)),none,0⟩,
⟨(some 6),(.q (.mv (.t 12))),none,0⟩,
⟨(some 7),(.q (.mv (.t 13))),none,0⟩])
(.seq (.seq (.reg [⟨(some 14),(.q (.mv (.t 7))),none,0⟩,
⟨(some 15),(.q (.bin .neq (.p .int) (.t 14) (.c (.int .i64 (.ofNat 0))))),none,0⟩])
(.cond (.t 15) (.seq (.reg [⟨(some 16),(.q (.build [(.bool false),.nilsl,.nilsl] [])),none,0⟩,
⟨(some 17),(.q (.mv (.t 7))),none,0⟩,
⟨none,(.x (.st 3 (.t 4) (.t 16))),none,0⟩,
⟨(some 5),(.q (.mv (.t 17))),none,0⟩])
.ret) .skip))
(.seq (.seq (.reg [⟨(some 18),(.q (.mv (.t 6))),none,0⟩,
⟨(some 19),(.q (.bin .gtr (.p .int) (.t 18) (.c (.int .i64 (.ofNat 0))))),none,0⟩])
(.cond (.t 19) (.seq (.reg [⟨(some 20),(.q (.build [(.bool false),.nilsl,.nilsl] [])),none,0⟩,
⟨none,(.x (.st 3 (.t 4) (.t 20))),none,0⟩,
⟨(some 5),(.q (.mv (.c (.int .i64 (.ofNat 9))))),none,0⟩])
.ret) .skip))
(.seq (.seq (.reg [⟨(some 21),(.q (.mv (.t 6))),none,0⟩,
⟨(some 22),(.q (.bin .eql (.p .int) (.t 21) (.c (.int .i64 (.ofNat 0))))),none,0⟩])
(.cond (.t 22) (.seq (.reg [⟨(some 23),(.q (.ld true 3 (.t 2))),none,0⟩,
⟨(some 24),(.x (.call (.c (.fn 48 [] [])) [(.t 23)])),none,0⟩,
⟨none,(.x (.st 3 (.t 4) (.t 24))),none,0⟩,
⟨(some 5),(.q (.mv (.c (.int .i64 (.ofNat 0))))),none,0⟩])
.ret) .skip))
(.seq (.seq (.reg [⟨(some 25),(.q (.ld true 3 (.t 2))),none,0⟩,
⟨(some 26),(.x (.call (.c (.fn 41 [] [])) [(.t 25)])),none,0⟩,
⟨(some 27),(.q (.bin .eql (.p .int) (.t 26) (.c (.int .i64 (.ofNat 2))))),none,0⟩])
(.cond (.t 27) (.seq (.reg [⟨(some 28),(.q (.ld true 3 (.t 2))),none,0⟩,
⟨(some 29),(.q (.ld true 3 (.t 3))),none,0⟩,
⟨(some 30),(.q (.build [(.bool false),.nilsl,.nilsl,(.bool false),.nilsl,.nilsl] [(0,3,(.t 28)),(3,3,(.t 29))])),none,0⟩,
⟨(some 31),(.x (.call (.c (.fn 49 [] [])) [(.t 30)])),none,0⟩,
⟨(some 32),(.x (.call (.c (.fn 48 [] [])) [(.t 31)])),none,0⟩,
⟨(some 33),(.x (.call (.c (.fn 45 [] [])) [(.t 32)])),none,0⟩,
⟨(some 34),(.q (.extract (.t 33) 0)),none,0⟩,
⟨(some 35),(.q (.extract (.t 33) 1)),none,0⟩,
⟨none,(.x (.st 3 (.t 4) (.t 34))),none,0⟩,
⟨(some 5),(.q (.mv (.t 35))),none,0⟩])
.ret) .skip))
(.seq (.seq (.reg [⟨(some 36),(.q (.ld true 3 (.t 3))),none,0⟩,
⟨(some 37),(.x (.call (.c (.fn 41 [] [])) [(.t 36)])),none,0⟩,
⟨(some 38),(.q (.bin .eql (.p .int) (.t 37) (.c (.int .i64 (.ofNat 0))))),none,0⟩])
(.cond (.t 38) (.seq (.drw [⟨(some 39),(.q (.ld true 3 (.t 3))),none,0⟩,
⟨(some 40),(.x (.call (.c (.fn 39 [] [])) [(.t 39)])),none,1⟩,
⟨(some 41),(.q (.ld true 3 (.t 2))),none,0⟩,
⟨(some 42),(.x (.call (.c (.fn 39 [] [])) [(.t 41)])),none,7⟩,
⟨(some 43),(.q (.build [(.bool false),.nilsl,.nilsl,(.bool false),.nilsl,.nilsl] [(0,3,(.t 40)),(3,3,(.t 42))])),none,15⟩,
⟨(some 44),(.x (.call (.c (.fn 49 [] [])) [(.t 43)])),none,31⟩,
⟨(some 45),(.x (.call (.c (.fn 39 [] [])) [(.t 44)])),none,63⟩,
⟨(some 46),(.x (.call (.c (.fn 45 [] [])) [(.t 45)])),none,127⟩,
⟨(some 47),(.q (.extract (.t 46) 0)),none,255⟩,
⟨(some 48),(.q (.extract (.t 46) 1)),none,255⟩,
⟨none,(.x (.st 3 (.t 4) (.t 47))),none,1023⟩,
⟨(some 5),(.q (.mv (.t 48))),none,2047⟩])
.ret) .skip))
(.seq (.reg [⟨(some 49),(.x (.call (.c (.fn 50 [] [])) [])),none,0⟩,
⟨none,(.x (.st 3 (.t 4) (.t 49))),none,0⟩,
⟨(some 5),(.q (.mv (.c (.int .i64 (.ofNat 0))))),none,0⟩])
.ret))))))))⟩
theorem row15 : Row Tryd.prog (15, a15) := ⟨Tryd.f15, Tryd.func15, by kernel_rfl⟩
noncomputable def a16 : AFn :=
⟨28,[(.t 2)],(.seq (.reg [⟨(some 1),(.a (.box 25 (.t 0))),none,0⟩,
⟨(some 2),(.q (.mv (.c (.int .i64 (.ofNat 0))))),none,0⟩])
(.seq (.seq (.reg [⟨(some 4),(.q (.faddr 1 (.t 1))),none,0⟩,
⟨(some 5),(.q (.ld false 1 (.t 4))),none,0⟩,
⟨(some 6),(.q (.faddr 2 (.t 1))),none,0⟩,
⟨(some 7),(.q (.ld false 1 (.t 6))),none,0⟩,
⟨(some 8),(.x (.call (.c (.fn 33 [] [])) [(.t 5),(.t 7)])),none,0⟩,
⟨(some 3),(.q (.mv (.t 8))),none,0⟩])
(.seq (.reg [⟨(some 9),(.q (.mv (.t 3))),none,0⟩,
⟨(some 10),(.q (.bin .neq (.p .int) (.t 9) (.c (.int .i64 (.ofNat 0))))),none,0⟩])
(.cond (.t 10) (.seq (.reg [⟨(some 11),(.q (.mv (.t 3))),none,0⟩,
⟨(some 2),(.q (.mv (.t 11))),none,0⟩])
.ret) .skip)))
(.seq (.seq (.reg [⟨(some 12),(.q (.faddr 1 (.t 1))),none,0⟩,
⟨(some 13),(.q (.ld false 1 (.t 12))),none,0⟩,
⟨(some 14),(.q (.lenSl (.t 13))),none,0⟩,
⟨(some 15),(.q (.bin .eql (.p .int) (.t 14) (.c (.int .i64 (.ofNat 0))))),none,0⟩,
⟨(some 16),(.q (.mv (.t 15))),none,0⟩,
⟨(some 17),(.q (.faddr 0 (.t 1))),(some (16,true)),0⟩,
⟨(some 18),(.q (.ld false 1 (.t 17))),(some (16,true)),0⟩,
⟨(some 19),(.q (.pick (.t 16) (.t 18) (.c (.bool false)))),none,0⟩,
⟨(some 20),(.q (.mv (.t 19))),none,0⟩,
⟨(some 21),(.q (.faddr 1 (.t 1))),(some (20,false)),0⟩,
⟨(some 22),(.q (.ld false 1 (.t 21))),(some (20,false)),0⟩,
⟨(some 23),(.q (.faddr 2 (.t 1))),(some (20,false)),0⟩,
⟨(some 24),(.q (.ld false 1 (.t 23))),(some (20,false)),0⟩,
⟨(some 25),(.x (.call (.c (.fn 51 [] [])) [(.t 22),(.t 24)])),(some (20,false)),0⟩,
⟨(some 26),(.q (.un .not (.t 25))),(some (20,false)),0⟩,
⟨(some 27),(.q (.pick (.t 20) (.c (.bool true)) (.t 26))),none,0⟩])
(.cond (.t 27) (.seq (.reg [⟨(some 2),(.q (.mv (.c (.int .i64 (.ofNat 3))))),none,0⟩])
.ret) .skip))
(.seq (.reg [⟨(some 2),(.q (.mv (.c (.int .i64 (.ofNat 0))))),none,0⟩])
.ret))))⟩
theorem row16 : Row Tryd.prog (16, a16) := ⟨Tryd.f16, Tryd.func16, by kernel_rfl⟩
noncomputable def a17 : AFn :=
⟨25,[(.t 6)],(.seq (.reg [⟨(some 6),(.q (.mv (.c (.bool false)))),none,0⟩])
(.seq (.reg [⟨(some 10),(.q (.mv (.t 0))),none,0⟩,
⟨(some 11),(.x (.call (.c (.fn 52 [] [])) [(.t 10)])),none,0⟩,
⟨(some 9),(.q (.mv (.t 11))),none,0⟩,
⟨(some 12),(.q (.extract (.t 9) 0)),none,0⟩,
⟨(some 13),(.q (.extract (.t 9) 1)),none,0⟩,
⟨(some 7),(.a (.alloc 25 [(.bool false),.nilsl,.nilsl])),none,0⟩,
⟨(some 8),(.a (.alloc 78 [(.int .i64 (.ofNat 0)),(.int .i64 (.ofNat 0))])),none,0⟩,
⟨none,(.x (.st 3 (.t 7) (.t 12))),none,0⟩,
⟨none,(.x (.st 2 (.t 8) (.t 13))),none,0⟩])
(.seq (.reg [⟨(some 14),(.q (.ld true 3 (.t 7))),none,0⟩,
⟨(some 15),(.q (.faddr 0 (.t 8))),none,0⟩,
⟨(some 16),(.q (.ld false 1 (.t 15))),none,0⟩,
⟨(some 17),(.q (.mv (.t 1))),none,0⟩,
⟨(some 18),(.q (.mv (.t 2))),none,0⟩,
⟨(some 19),(.x (.call (.c (.fn 7 [] [])) [(.t 14),(.t 16),(.t 17),(.t 18)])),none,0⟩,
⟨(some 20),(.q (.mv (.t 19))),none,0⟩,
⟨(some 21),(.q (.faddr 1 (.t 8))),(some (20,true)),0⟩,
⟨(some 22),(.q (.ld false 1 (.t 21))),(some (20,true)),0⟩,
⟨(some 23),(.q (.bin .eql (.p .int) (.t 22) (.c (.int .i64 (.ofNat 0))))),(some (20,true)),0⟩,
⟨(some 24),(.q (.pick (.t 20) (.t 23) (.c (.bool false)))),none,0⟩,
⟨(some 6),(.q (.mv (.t 24))),none,0⟩])
.ret)))⟩
theorem row17 : Row Tryd.prog (17, a17) := ⟨Tryd.f17, Tryd.func17, by kernel_rfl⟩
noncomputable def a18 : AFn :=
⟨25,[(.t 6)],(.seq (.reg [⟨(some 6),(.q (.mv (.c (.bool false)))),none,0⟩])
(.seq (.reg [⟨(some 10),(.q (.mv (.t 0))),none,0⟩,
⟨(some 11),(.x (.call (.c (.fn 52 [] [])) [(.t 10)])),none,0⟩,
⟨(some 9),(.q (.mv (.t 11))),none,0⟩,
⟨(some 12),(.q (.extract (.t 9) 0)),none,0⟩,
⟨(some 13),(.q (.extract (.t 9) 1)),none,0⟩,
⟨(some 7),(.a (.alloc 25 [(.bool false),.nilsl,.nilsl])),none,0⟩,
⟨(some 8),(.a (.alloc 78 [(.int .i64 (.ofNat 0)),(.int .i64 (.ofNat 0))])),none,0⟩,
⟨none,(.x (.st 3 (.t 7) (.t 12))),none,0⟩,
⟨none,(.x (.st 2 (.t 8) (.t 13))),none,0⟩])
(.seq (.reg [⟨(some 14),(.q (.ld true 2 (.t 8))),none,0⟩,
⟨(some 15),(.q (.mv (.t 1))),none,0⟩,
⟨(some 16),(.q (.mv (.t 2))),none,0⟩,
⟨(some 17),(.q (.build [(.int .i64 (.ofNat 0)),(.int .i64 (.ofNat 0))] [(0,1,(.t 15)),(1,1,(.t 16))])),none,0⟩,
⟨(some 18),(.q (.bin .eql (.struct [(0,.int),(1,.int)]) (.t 14) (.t 17))),none,0⟩,
⟨(some 19),(.q (.mv (.t 18))),none,0⟩,
⟨(some 20),(.q (.faddr 2 (.t 7))),(some (19,true)),0⟩,
⟨(some 21),(.q (.ld false 1 (.t 20))),(some (19,true)),0⟩,
⟨(some 22),(.q (.lenSl (.t 21))),(some (19,true)),0⟩,
⟨(some 23),(.q (.bin .eql (.p .int) (.t 22) (.c (.int .i64 (.ofNat 0))))),(some (19,true)),0⟩,
⟨(some 24),(.q (.pick (.t 19) (.t 23) (.c (.bool false)))),none,0⟩,
⟨(some 6),(.q (.mv (.t 24))),none,0⟩])
.ret)))⟩
theorem row18 : Row Tryd.prog (18, a18) := ⟨Tryd.f18, Tryd.func18, by kernel_rfl⟩
noncomputable def a19 : AFn :=
⟨53,[(.t 0)],(.seq (.reg [⟨(some 0),(.q (.mv (.c (.bool false)))),none,0⟩])
(.seq (.reg [⟨(some 10),(.x (.call (.c (.fn 9 [] [])) [(.c (.int .i64 (.ofNat 1))),(.c (.int .i64 (.ofNat 2)))])),none,0⟩,
⟨(some 11),(.x (.call (.c (.fn 9 [] [])) [(.c (.int .i64 (.ofNat 1))),(.c (.int .i64 (.ofNat 3)))])),none,0⟩,
⟨(some 12),(.x (.call (.c (.fn 53 [] [])) [(.t 10),(.t 11)])),none,0⟩,
⟨(some 9),(.q (.mv (.t 12))),none,0⟩,
⟨(some 13),(.q (.extract (.t 9) 0)),none,0⟩,
⟨(some 14),(.q (.extract (.t 9) 1)),none,0⟩,
⟨(some 1),(.a (.alloc 25 [(.bool false),.nilsl,.nilsl])),none,0⟩,
⟨none,(.x (.st 3 (.t 1) (.t 13))),none,0⟩,
⟨(some 2),(.q (.mv (.t 14))),none,0⟩])
(.seq (.reg [⟨(some 16),(.x (.call (.c (.fn 9 [] [])) [(.c (.int .i64 (.ofNat 2))),(.c (.int .i64 (.ofNat 3)))])),none,0⟩,
⟨(some 17),(.x (.call (.c (.fn 9 [] [])) [(.c (.int .i64 (.negSucc 2))),(.c (.int .i64 (.ofNat 4)))])),none,0⟩,
⟨(some 18),(.x (.call (.c (.fn 54 [] [])) [(.t 16),(.t 17)])),none,0⟩,
⟨(some 15),(.q (.mv (.t 18))),none,0⟩,
⟨(some 19),(.q (.extract (.t 15) 0)),none,0⟩,
⟨(some 20),(.q (.extract (.t 15) 1)),none,0⟩,
⟨(some 3),(.a (.alloc 25 [(.bool false),.nilsl,.nilsl])),none,0⟩,
⟨none,(.x (.st 3 (.t 3) (.t 19))),none,0⟩,
⟨(some 4),(.q (.mv (.t 20))),none,0⟩])
(.seq (.reg [⟨(some 22),(.x (.call (.c (.fn 9 [] [])) [(.c (.int .i64 (.ofNat 1))),(.c (.int .i64 (.ofNat 3)))])),none,0⟩,
⟨(some 23),(.x (.call (.c (.fn 9 [] [])) [(.c (.int .i64 (.ofNat 1))),(.c (.int .i64 (.ofNat 2)))])),none,0⟩,
⟨(some 24),(.x (.call (.c (.fn 15 [] [])) [(.t 22),(.t 23)])),none,0⟩,
⟨(some 21),(.q (.mv (.t 24))),none,0⟩,
⟨(some 25),(.q (.extract (.t 21) 0)),none,0⟩,
⟨(some 26),(.q (.extract (.t 21) 1)),none,0⟩,
⟨(some 5),(.a (.alloc 25 [(.bool false),.nilsl,.nilsl])),none,0⟩,
⟨none,(.x (.st 3 (.t 5) (.t 25))),none,0⟩,
⟨(some 6),(.q (.mv (.t 26))),none,0⟩])
(.seq (.reg [⟨(some 28),(.x (.call (.c (.fn 9 [] [])) [(.c (.int .i64 (.negSucc 0))),(.c (.int .i64 (.ofNat 3)))])),none,0⟩,
⟨(some 29),(.x (.call (.c (.fn 14 [] [])) [(.t 28),(.c (.int .i64 (.ofNat 100)))])),none,0⟩,
⟨(some 27),(.q (.mv (.t 29))),none,0⟩,
⟨(some 30),(.q (.extract (.t 27) 0)),none,0⟩,
⟨(some 31),(.q (.extract (.t 27) 1)),none,0⟩,
⟨(some 7),(.q (.mv (.t 30))),none,0⟩,
⟨(some 8),(.q (.mv (.t 31))),none,0⟩])
(.seq (.reg [⟨(some 32),(.q (.ld true 3 (.t 1))),none,0⟩,
⟨(some 33),(.q (.mv (.t 2))),none,0⟩,
⟨(some 34),(.x (.call (.c (.fn 7 [] [])) [(.t 32),(.t 33),(.c (.int .i64 (.ofNat 5))),(.c (.int .i64 (.ofNat 6)))])),none,0⟩,
⟨(some 35),(.q (.mv (.t 34))),none,0⟩,
⟨(some 36),(.q (.ld true 3 (.t 3))),(some (35,true)),0⟩,
⟨(some 37),(.q (.mv (.t 4))),(some (35,true)),0⟩,
⟨(some 38),(.x (.call (.c (.fn 7 [] [])) [(.t 36),(.t 37),(.c (.int .i64 (.negSucc 0))),(.c (.int .i64 (.ofNat 2)))])),(some (35,true)),0⟩,
⟨(some 39),(.q (.pick (.t 35) (.t 38) (.c (.bool false)))),none,0⟩,
⟨(some 40),(.q (.mv (.t 39))),none,0⟩,
⟨(some 41),(.q (.ld true 3 (.t 5))),(some (40,true)),0⟩,
⟨(some 42),(.q (.mv (.t 6))),(some (40,true)),0⟩,
⟨(some 43),(.x (.call (.c (.fn 7 [] [])) [(.t 41),(.t 42),(.c (.int .i64 (.ofNat 1))),(.c (.int .i64 (.ofNat 2)))])),(some (40,true)),0⟩,
⟨(some 44),(.q (.pick (.t 40) (.t 43) (.c (.bool false)))),none,0⟩,
⟨(some 45),(.q (.mv (.t 44))),none,0⟩,
⟨(some 46),(.q (.mv (.t 7))),(some (45,true)),0⟩,
⟨(some 47),(.q (.bin .eql (.p .int) (.t 46) (.c (.int .i64 (.negSucc 33))))),(some (45,true)),0⟩,
⟨(some 48),(.q (.pick (.t 45) (.t 47) (.c (.bool false)))),none,0⟩,
⟨(some 49),(.q (.mv (.t 48))),none,0⟩,
⟨(some 50),(.q (.mv (.t 8))),(some (49,true)),0⟩,
⟨(some 51),(.q (.bin .eql (.p .int) (.t 50) (.c (.int .i64 (.ofNat 0))))),(some (49,true)),0⟩,
⟨(some 52),(.q (.pick (.t 49) (.t 51) (.c (.bool false)))),none,0⟩,
⟨(some 0),(.q (.mv (.t 52))),none,0⟩])
.ret))))))⟩
theorem row19 : Row Tryd.prog (19, a19) := ⟨Tryd.f19, Tryd.func19, by kernel_rfl⟩
noncomputable def a30 : AFn :=
⟨39,[(.cell 6 true 3)],(.seq (.reg [⟨(some 6),(.a (.alloc 25 [(.bool false),.nilsl,.nilsl])),none,0⟩])
(.seq (.seq (.reg [⟨(some 8),(.q (.mv (.t 1))),none,0⟩,
⟨(some 9),(.q (.lenSl (.t 8))),none,0⟩,
⟨(some 10),(.q (.bin .eql (.p .int) (.t 9) (.c (.int .i64 (.ofNat 0))))),none,0⟩])
(.cond (.t 10) (.seq (.reg [⟨(some 11),(.x (.call (.c (.fn 50 [] [])) [])),none,0⟩,
⟨none,(.x (.st 3 (.t 6) (.t 11))),none,0⟩])
.ret) .skip))
(.seq (.seq (.reg [⟨(some 12),(.q (.mv (.t 1))),none,0⟩,
⟨(some 13),(.q (.lenSl (.t 12))),none,0⟩,
⟨(some 14),(.q (.bin .leq (.p .int) (.t 13) (.c (.int .i64 (.ofNat 2))))),none,0⟩,
⟨(some 15),(.q (.mv (.t 14))),none,0⟩,
⟨(some 16),(.q (.mv (.t 2))),(some (15,true)),0⟩,
⟨(some 17),(.q (.lenSl (.t 16))),(some (15,true)),0⟩,
⟨(some 18),(.q (.bin .leq (.p .int) (.t 17) (.c (.int .i64 (.ofNat 2))))),(some (15,true)),0⟩,
⟨(some 19),(.q (.pick (.t 15) (.t 18) (.c (.bool false)))),none,0⟩])
(.cond (.t 19) (.seq (.reg [⟨(some 20),(.q (.mv (.t 0))),none,0⟩,
⟨(some 21),(.q (.mv (.t 1))),none,0⟩,
⟨(some 22),(.x (.call (.c (.fn 78 [] [])) [(.t 21)])),none,0⟩,
⟨(some 23),(.q (.mv (.t 2))),none,0⟩,
⟨(some 24),(.x (.call (.c (.fn 78 [] [])) [(.t 23)])),none,0⟩,
⟨(some 25),(.x (.call (.c (.fn 77 [] [])) [(.t 20),(.t 22),(.t 24)])),none,0⟩,
⟨none,(.x (.st 3 (.t 6) (.t 25))),none,0⟩])
.ret) .skip))
(.seq (.reg [⟨(some 26),(.q (.mv (.t 1))),none,0⟩,
⟨(some 27),(.q (.mv (.t 2))),none,0⟩,
⟨(some 28),(.x (.call (.c (.fn 79 [] [])) [(.t 26),(.t 27)])),none,0⟩,
⟨(some 7),(.q (.mv (.t 28))),none,0⟩])
(.seq (.reg [⟨(some 29),(.q (.mv (.t 0))),none,0⟩,
⟨(some 30),(.q (.mv (.t 1))),none,0⟩,
⟨(some 31),(.q (.mv (.t 7))),none,0⟩,
⟨(some 32),(.x (.call (.c (.fn 81 [] [])) [(.t 30),(.t 31)])),none,0⟩,
⟨(some 33),(.x (.call (.c (.fn 80 [] [])) [(.t 32)])),none,0⟩,
⟨(some 34),(.q (.mv (.t 2))),none,0⟩,
⟨(some 35),(.q (.mv (.t 7))),none,0⟩,
⟨(some 36),(.x (.call (.c (.fn 81 [] [])) [(.t 34),(.t 35)])),none,0⟩,
⟨(some 37),(.x (.call (.c (.fn 80 [] [])) [(.t 36)])),none,0⟩,
⟨(some 38),(.q (.build [(.bool false),.nilsl,.nilsl] [(0,1,(.t 29)),(1,1,(.t 33)),(2,1,(.t 37))])),none,0⟩,
⟨none,(.x (.st 3 (.t 6) (.t 38))),none,0⟩])
.ret)))))⟩
theorem row30 : Row Tryd.prog (30, a30) := ⟨Tryd.f30, Tryd.func30, by kernel_rfl⟩
noncomputable def a31 : AFn :=
⟨15,[(.t 2)],(.seq (.reg [⟨(some 2),(.q (.mv (.c .nilsl))),none,0⟩])
(.seq (.reg [⟨(some 3),(.q (.mv (.c .nilsl))),none,0⟩])
(.seq (.block 0 (.loop (.seq (.seq (.reg [⟨(some 4),(.q (.mv (.t 0))),none,0⟩,
⟨(some 5),(.q (.bin .gtr (.p .int) (.t 4) (.c (.int .u64 (.ofNat 0))))),none,0⟩])
(.cond (.t 5) .skip (.exit 0)))
(.block 1 (.seq (.reg [⟨(some 6),(.q (.mv (.t 3))),none,0⟩,
⟨(some 7),(.q (.mv (.t 0))),none,0⟩,
⟨(some 8),(.q (.bin .rem (.p .int) (.t 7) (.c (.int .u64 (.ofNat 1000000000))))),none,0⟩,
⟨(some 9),(.q (.conv (.int .u32) (.t 8))),none,0⟩,
⟨(some 10),(.a (.bslice 30 1 1 [(.int .u32 (.ofNat 0))] [(0,(.t 9))])),none,0⟩,
⟨(some 11),(.x (.app 30 1 4 (.t 6) (.t 10))),none,0⟩,
⟨(some 3),(.q (.mv (.t 11))),none,0⟩])
(.reg [⟨(some 12),(.q (.mv (.t 0))),none,0⟩,
⟨(some 13),(.q (.bin .quo (.p .int) (.t 12) (.c (.int .u64 (.ofNat 1000000000))))),none,0⟩,
⟨(some 0),(.q (.mv (.t 13))),none,0⟩]))))))
(.seq (.reg [⟨(some 14),(.q (.mv (.t 3))),none,0⟩,
⟨(some 2),(.q (.mv (.t 14))),none,0⟩])
.ret))))⟩
theorem row31 : Row Tryd.prog (31, a31) := ⟨Tryd.f31, Tryd.func31, by kernel_rfl⟩
noncomputable def a32 : AFn :=
⟨10,[(.t 2)],(.seq (.reg [⟨(some 2),(.q (.mv (.c (.int .u64 (.ofNat 0))))),none,0⟩])
(.seq (.seq (.reg [⟨(some 3),(.q (.mv (.t 0))),none,0⟩,
⟨(some 4),(.q (.bin .lss (.p .int) (.t 3) (.c (.int .i64 (.ofNat 0))))),none,0⟩])
(.cond (.t 4) (.seq (.reg [⟨(some 5),(.q (.mv (.t 0))),none,0⟩,
⟨(some 6),(.q (.conv (.int .u64) (.t 5))),none,0⟩,
⟨(some 7),(.q (.un .neg (.t 6))),none,0⟩,
⟨(some 2),(.q (.mv (.t 7))),none,0⟩])
.ret) .skip))
(.seq (.reg [⟨(some 8),(.q (.mv (.t 0))),none,0⟩,
⟨(some 9),(.q (.conv (.int .u64) (.t 8))),none,0⟩,
⟨(some 2),(.q (.mv (.t 9))),none,0⟩])
.ret)))⟩
theorem row32 : Row Tryd.prog (32, a32) := ⟨Tryd.f32, Tryd.func32, by kernel_rfl⟩
noncomputable def a33 : AFn :=
⟨20,[(.t 4)],(.seq (.reg [⟨(some 4),(.q (.mv (.c (.int .i64 (.ofNat 0))))),none,0⟩])
(.seq (.seq (.reg [⟨(some 7),(.q (.mv (.t 0))),none,0⟩,
⟨(some 8),(.x (.call (.c (.fn 82 [] [])) [(.t 7)])),none,0⟩,
⟨(some 5),(.q (.mv (.t 8))),none,0⟩])
(.seq (.reg [⟨(some 9),(.q (.mv (.t 5))),none,0⟩,
⟨(some 10),(.q (.bin .neq (.p .int) (.t 9) (.c (.int .i64 (.ofNat 0))))),none,0⟩])
(.cond (.t 10) (.seq (.reg [⟨(some 11),(.q (.mv (.t 5))),none,0⟩,
⟨(some 4),(.q (.mv (.t 11))),none,0⟩])
.ret) .skip)))
(.seq (.seq (.reg [⟨(some 12),(.q (.mv (.t 1))),none,0⟩,
⟨(some 13),(.x (.call (.c (.fn 82 [] [])) [(.t 12)])),none,0⟩,
⟨(some 6),(.q (.mv (.t 13))),none,0⟩])
(.seq (.reg [⟨(some 14),(.q (.mv (.t 6))),none,0⟩,
⟨(some 15),(.q (.bin .neq (.p .int) (.t 14) (.c (.int .i64 (.ofNat 0))))),none,0⟩])
(.cond (.t 15) (.seq (.reg [⟨(some 16),(.q (.mv (.t 6))),none,0⟩,
⟨(some 4),(.q (.mv (.t 16))),none,0⟩])
.ret) .skip)))
(.seq (.seq (.reg [⟨(some 17),(.q (.mv (.t 1))),none,0⟩,
⟨(some 18),(.q (.lenSl (.t 17))),none,0⟩,
⟨(some 19),(.q (.bin .eql (.p .int) (.t 18) (.c (.int .i64 (.ofNat 0))))),none,0⟩])
(.cond (.t 19) (.seq (.reg [⟨(some 4),(.q (.mv (.c (.int .i64 (.ofNat 6))))),none,0⟩])
.ret) .skip))
(.seq (.reg [⟨(some 4),(.q (.mv (.c (.int .i64 (.ofNat 0))))),none,0⟩])
.ret)))))⟩
theorem row33 : Row Tryd.prog (33, a33) := ⟨Tryd.f33, Tryd.func33, by kernel_rfl⟩
noncomputable def a34 : AFn :=
⟨24,[(.t 4)],(.seq (.reg [⟨(some 2),(.a (.box 25 (.t 0))),none,0⟩,
⟨(some 3),(.a (.box 25 (.t 1))),none,0⟩,
⟨(some 4),(.q (.mv (.c (.bool false)))),none,0⟩])
(.seq (.reg [⟨(some 5),(.q (.faddr 0 (.t 2))),none,0⟩,
⟨(some 6),(.q (.ld false 1 (.t 5))),none,0⟩,
⟨(some 7),(.q (.faddr 0 (.t 3))),none,0⟩,
⟨(some 8),(.q (.ld false 1 (.t 7))),none,0⟩,
⟨(some 9),(.q (.bin .eql (.p .bool) (.t 6) (.t 8))),none,0⟩,
⟨(some 10),(.q (.mv (.t 9))),none,0⟩,
⟨(some 11),(.q (.faddr 1 (.t 2))),(some (10,true)),0⟩,
⟨(some 12),(.q (.ld false 1 (.t 11))),(some (10,true)),0⟩,
⟨(some 13),(.q (.faddr 1 (.t 3))),(some (10,true)),0⟩,
⟨(some 14),(.q (.ld false 1 (.t 13))),(some (10,true)),0⟩,
⟨(some 15),(.x (.call (.c (.fn 83 [] [])) [(.t 12),(.t 14)])),(some (10,true)),0⟩,
⟨(some 16),(.q (.pick (.t 10) (.t 15) (.c (.bool false)))),none,0⟩,
⟨(some 17),(.q (.mv (.t 16))),none,0⟩,
⟨(some 18),(.q (.faddr 2 (.t 2))),(some (17,true)),0⟩,
⟨(some 19),(.q (.ld false 1 (.t 18))),(some (17,true)),0⟩,
⟨(some 20),(.q (.faddr 2 (.t 3))),(some (17,true)),0⟩,
⟨(some 21),(.q (.ld false 1 (.t 20))),(some (17,true)),0⟩,
⟨(some 22),(.x (.call (.c (.fn 83 [] [])) [(.t 19),(.t 21)])),(some (17,true)),0⟩,
⟨(some 23),(.q (.pick (.t 17) (.t 22) (.c (.bool false)))),none,0⟩,
⟨(some 4),(.q (.mv (.t 23))),none,0⟩])
.ret))⟩
theorem row34 : Row Tryd.prog (34, a34) := ⟨Tryd.f34, Tryd.func34, by kernel_rfl⟩
noncomputable def a35 : AFn :=
⟨13,[(.t 4)],(.seq (.reg [⟨(some 2),(.a (.box 25 (.t 0))),none,0⟩,
⟨(some 3),(.a (.box 25 (.t 1))),none,0⟩,
⟨(some 4),(.q (.mv (.c (.int .i64 (.ofNat 0))))),none,0⟩])
(.seq (.seq (.reg [⟨(some 6),(.q (.ld true 3 (.t 2))),none,0⟩,
⟨(some 7),(.x (.call (.c (.fn 16 [] [])) [(.t 6)])),none,0⟩,
⟨(some 5),(.q (.mv (.t 7))),none,0⟩])
(.seq (.reg [⟨(some 8),(.q (.mv (.t 5))),none,0⟩,
⟨(some 9),(.q (.bin .neq (.p .int) (.t 8) (.c (.int .i64 (.ofNat 0))))),none,0⟩])
(.cond (.t 9) (.seq (.reg [⟨(some 10),(.q (.mv (.t 5))),none,0⟩,
⟨(some 4),(.q (.mv (.t 10))),none,0⟩])
.ret) .skip)))
(.seq (.reg [⟨(some 11),(.q (.ld true 3 (.t 3))),none,0⟩,
⟨(some 12),(.x (.call (.c (.fn 16 [] [])) [(.t 11)])),none,0⟩,
⟨(some 4),(.q (.mv (.t 12))),none,0⟩])
.ret)))⟩
theorem row35 : Row Tryd.prog (35, a35) := ⟨Tryd.f35, Tryd.func35, by kernel_rfl⟩
noncomputable def a36 : AFn :=
⟨15,[(.cell 4 true 3)],(.seq (.reg [⟨(some 4),(.a (.alloc 25 [(.bool false),.nilsl,.nilsl])),none,0⟩])
(.seq (.reg [⟨(some 5),(.q (.mv (.t 0))),none,0⟩,
⟨(some 6),(.q (.mv (.t 5))),none,0⟩,
⟨(some 7),(.q (.mv (.t 1))),(some (6,true)),0⟩,
⟨(some 8),(.q (.lenSl (.t 7))),(some (6,true)),0⟩,
⟨(some 9),(.q (.bin .gtr (.p .int) (.t 8) (.c (.int .i64 (.ofNat 0))))),(some (6,true)),0⟩,
⟨(some 10),(.q (.pick (.t 6) (.t 9) (.c (.bool false)))),none,0⟩,
⟨(some 11),(.q (.mv (.t 1))),none,0⟩,
⟨(some 12),(.x (.call (.c (.fn 80 [] [])) [(.t 11)])),none,0⟩,
⟨(some 13),(.x (.call (.c (.fn 37 [] [])) [])),none,0⟩,
⟨(some 14),(.q (.build [(.bool false),.nilsl,.nilsl] [(0,1,(.t 10)),(1,1,(.t 12)),(2,1,(.t 13))])),none,0⟩,
⟨none,(.x (.st 3 (.t 4) (.t 14))),none,0⟩])
.ret))⟩
theorem row36 : Row Tryd.prog (36, a36) := ⟨Tryd.f36, Tryd.func36, by kernel_rfl⟩
noncomputable def a37 : AFn :=
⟨2,[(.t 0)],(.seq (.reg [⟨(some 0),(.q (.mv (.c .nilsl))),none,0⟩])
(.seq (.reg [⟨(some 1),(.a (.bslice 30 1 1 [(.int .u32 (.ofNat 0))] [(0,(.c (.int .u32 (.ofNat 1))))])),none,0⟩,
⟨(some 0),(.q (.mv (.t 1))),none,0⟩])
.ret))⟩
theorem row37 : Row Tryd.prog (37, a37) := ⟨Tryd.f37, Tryd.func37, by kernel_rfl⟩
noncomputable def a38 : AFn :=
⟨12,[(.cell 2 true 3),(.t 3)],(.seq (.reg [⟨(some 2),(.a (.alloc 25 [(.bool false),.nilsl,.nilsl])),none,0⟩,
⟨(some 3),(.q (.mv (.c (.int .i64 (.ofNat 0))))),none,0⟩])
(.seq (.reg [⟨(some 4),(.a (.alloc 112 [.nilfn])),none,0⟩,
⟨none,(.x (.st 1 (.t 4) (.c (.fn 84 [] [])))),none,0⟩])
(.seq (.reg [⟨(some 5),(.x (.call (.c (.fn 50 [] [])) [])),none,0⟩,
⟨(some 6),(.q (.mkFunc 88 [] [(.t 4)])),none,0⟩,
⟨(some 7),(.q (.mv (.t 0))),none,0⟩,
⟨(some 8),(.x (.call (.c (.fn 87 [] [])) [(.t 5),(.t 6),(.t 7)])),none,0⟩,
⟨(some 9),(.x (.call (.c (.fn 45 [] [])) [(.t 8)])),none,0⟩,
⟨(some 10),(.q (.extract (.t 9) 0)),none,0⟩,
⟨(some 11),(.q (.extract (.t 9) 1)),none,0⟩,
⟨none,(.x (.st 3 (.t 2) (.t 10))),none,0⟩,
⟨(some 3),(.q (.mv (.t 11))),none,0⟩])
.ret)))⟩
theorem row38 : Row Tryd.prog (38, a38) := ⟨Tryd.f38, Tryd.func38, by kernel_rfl⟩
noncomputable def a39 : AFn :=
⟨6,[(.cell 2 true 3)],(.seq (.reg [⟨(some 1),(.a (.box 25 (.t 0))),none,0⟩,
⟨(some 2),(.a (.alloc 25 [(.bool false),.nilsl,.nilsl])),none,0⟩])
(.seq (.reg [⟨(some 3),(.q (.ld true 3 (.t 1))),none,0⟩,
⟨(some 4),(.x (.call (.c (.fn 90 [] [])) [(.t 3)])),none,0⟩,
⟨(some 5),(.x (.call (.c (.fn 48 [] [])) [(.t 4)])),none,0⟩,
⟨none,(.x (.st 3 (.t 2) (.t 5))),none,0⟩])
.ret))⟩
theorem row39 : Row Tryd.prog (39, a39) := ⟨Tryd.f39, Tryd.func39, by kernel_rfl⟩
noncomputable def a40 : AFn :=
⟨31,[(.cell 4 true 3)],(.seq (.reg [⟨(some 4),(.a (.alloc 25 [(.bool false),.nilsl,.nilsl])),none,0⟩])
(.seq (.reg [⟨(some 6),(.q (.mv (.t 0))),none,0⟩,
⟨(some 7),(.q (.mv (.t 0))),none,0⟩,
⟨(some 8),(.q (.un .neg (.t 7))),none,0⟩,
⟨(some 9),(.q (.minmax true [(.t 6),(.t 8)])),none,0⟩,
⟨(some 10),(.q (.mv (.t 1))),none,0⟩,
⟨(some 11),(.x (.call (.c (.fn 91 [] [])) [(.t 9),(.t 10)])),none,0⟩,
⟨(some 5),(.q (.mv (.t 11))),none,0⟩])
(.seq (.drw [⟨(some 12),(.q (.mv (.t 0))),none,0⟩,
⟨(some 13),(.q (.mv (.t 5))),none,0⟩,
⟨(some 14),(.q (.bin .quo (.p .int) (.t 12) (.t 13))),none,3⟩,
⟨(some 15),(.q (.mv (.t 1))),none,0⟩,
⟨(some 16),(.q (.mv (.t 5))),none,0⟩,
⟨(some 17),(.q (.bin .quo (.p .int) (.t 15) (.t 16))),none,24⟩,
⟨(some 0),(.q (.mv (.t 14))),none,7⟩,
⟨(some 1),(.q (.mv (.t 17))),none,127⟩])
(.seq (.seq (.reg [⟨(some 18),(.q (.mv (.t 0))),none,0⟩,
⟨(some 19),(.q (.bin .lss (.p .int) (.t 18) (.c (.int .i64 (.ofNat 0))))),none,0⟩])
(.cond (.t 19) (.seq (.reg [⟨(some 20),(.q (.mv (.t 0))),none,0⟩,
⟨(some 21),(.q (.un .neg (.t 20))),none,0⟩,
⟨(some 22),(.x (.call (.c (.fn 92 [] [])) [(.t 21)])),none,0⟩,
⟨(some 23),(.q (.mv (.t 1))),none,0⟩,
⟨(some 24),(.x (.call (.c (.fn 92 [] [])) [(.t 23)])),none,0⟩,
⟨(some 25),(.q (.build [(.bool false),.nilsl,.nilsl] [(0,1,(.c (.bool true))),(1,1,(.t 22)),(2,1,(.t 24))])),none,0⟩,
⟨none,(.x (.st 3 (.t 4) (.t 25))),none,0⟩])
.ret) .skip))
(.seq (.reg [⟨(some 26),(.q (.mv (.t 0))),none,0⟩,
⟨(some 27),(.x (.call (.c (.fn 92 [] [])) [(.t 26)])),none,0⟩,
⟨(some 28),(.q (.mv (.t 1))),none,0⟩,
⟨(some 29),(.x (.call (.c (.fn 92 [] [])) [(.t 28)])),none,0⟩,
⟨(some 30),(.q (.build [(.bool false),.nilsl,.nilsl] [(1,1,(.t 27)),(2,1,(.t 29))])),none,0⟩,
⟨none,(.x (.st 3 (.t 4) (.t 30))),none,0⟩])
.ret)))))⟩
theorem row40 : Row Tryd.prog (40, a40) := ⟨Tryd.f40, Tryd.func40, by kernel_rfl⟩
noncomputable def a41 : AFn :=
⟨11,[(.t 2)],(.seq (.reg [⟨(some 1),(.a (.box 25 (.t 0))),none,0⟩,
⟨(some 2),(.q (.mv (.c (.int .i64 (.ofNat 0))))),none,0⟩])
(.seq (.block 0 (.seq (.reg [⟨(some 4),(.q (.faddr 1 (.t 1))),none,0⟩,
⟨(some 5),(.q (.ld false 1 (.t 4))),none,0⟩,
⟨(some 6),(.q (.lenSl (.t 5))),none,0⟩,
⟨(some 7),(.q (.bin .eql (.p .int) (.t 6) (.c (.int .i64 (.ofNat 0))))),none,0⟩,
⟨(some 3),(.q (.mv (.t 7))),none,0⟩])
(.cond (.t 3) (.seq (.reg [⟨(some 2),(.q (.mv (.c (.int .i64 (.ofNat 1))))),none,0⟩])
.ret) (.seq (.reg [⟨(some 9),(.q (.faddr 0 (.t 1))),none,0⟩,
⟨(some 10),(.q (.ld false 1 (.t 9))),none,0⟩,
⟨(some 8),(.q (.mv (.t 10))),none,0⟩])
(.cond (.t 8) (.seq (.reg [⟨(some 2),(.q (.mv (.c (.int .i64 (.ofNat 0))))),none,0⟩])
.ret) .skip)))))
(.seq (.reg [⟨(some 2),(.q (.mv (.c (.int .i64 (.ofNat 2))))),none,0⟩])
.ret)))⟩
theorem row41 : Row Tryd.prog (41, a41) := ⟨Tryd.f41, Tryd.func41, by kernel_rfl⟩
noncomputable def a42 : AFn :=
⟨12,[(.cell 2 true 3)],(.seq (.reg [⟨(some 1),(.a (.box 25 (.t 0))),none,0⟩,
⟨(some 2),(.a (.alloc 25 [(.bool false),.nilsl,.nilsl])),none,0⟩])
(.seq (.drw [⟨(some 3),(.q (.faddr 0 (.t 1))),none,0⟩,
⟨(some 4),(.q (.ld false 1 (.t 3))),none,1⟩,
⟨(some 5),(.q (.faddr 2 (.t 1))),none,0⟩,
⟨(some 6),(.q (.ld false 1 (.t 5))),none,4⟩,
⟨(some 7),(.x (.call (.c (.fn 80 [] [])) [(.t 6)])),none,12⟩,
⟨(some 8),(.q (.faddr 1 (.t 1))),none,0⟩,
⟨(some 9),(.q (.ld false 1 (.t 8))),none,32⟩,
⟨(some 10),(.x (.call (.c (.fn 80 [] [])) [(.t 9)])),none,124⟩,
⟨(some 11),(.q (.build [(.bool false),.nilsl,.nilsl] [(0,1,(.t 4)),(1,1,(.t 7)),(2,1,(.t 10))])),none,255⟩,
⟨none,(.x (.st 3 (.t 2) (.t 11))),none,511⟩])
.ret))⟩
theorem row42 : Row Tryd.prog (42, a42) := ⟨Tryd.f42, Tryd.func42, by kernel_rfl⟩
noncomputable def a43 : AFn :=
⟨41,[(.t 4)],(.seq (.reg [⟨(some 4),(.q (.mv (.c (.int .i64 (.ofNat 0))))),none,0⟩])
(.seq (.seq (.reg [⟨(some 6),(.q (.mv (.t 0))),none,0⟩,
⟨(some 7),(.q (.lenSl (.t 6))),none,0⟩,
⟨(some 8),(.q (.mv (.t 1))),none,0⟩,
⟨(some 9),(.q (.lenSl (.t 8))),none,0⟩,
⟨(some 10),(.q (.bin .neq (.p .int) (.t 7) (.t 9))),none,0⟩])
(.cond (.t 10) (.seq (.seq (.reg [⟨(some 11),(.q (.mv (.t 0))),none,0⟩,
⟨(some 12),(.q (.lenSl (.t 11))),none,0⟩,
⟨(some 13),(.q (.mv (.t 1))),none,0⟩,
⟨(some 14),(.q (.lenSl (.t 13))),none,0⟩,
⟨(some 15),(.q (.bin .lss (.p .int) (.t 12) (.t 14))),none,0⟩])
(.cond (.t 15) (.seq (.reg [⟨(some 4),(.q (.mv (.c (.int .i64 (.negSucc 0))))),none,0⟩])
.ret) .skip))
(.seq (.reg [⟨(some 4),(.q (.mv (.c (.int .i64 (.ofNat 1))))),none,0⟩])
.ret)) .skip))
(.seq (.seq (.reg [⟨(some 16),(.q (.mv (.t 0))),none,0⟩,
⟨(some 17),(.q (.lenSl (.t 16))),none,0⟩,
⟨(some 18),(.q (.bin .sub (.p .int) (.t 17) (.c (.int .i64 (.ofNat 1))))),none,0⟩,
⟨(some 5),(.q (.mv (.t 18))),none,0⟩])
(.block 0 (.loop (.seq (.seq (.reg [⟨(some 19),(.q (.mv (.t 5))),none,0⟩,
⟨(some 20),(.q (.bin .geq (.p .int) (.t 19) (.c (.int .i64 (.ofNat 0))))),none,0⟩])
(.cond (.t 20) .skip (.exit 0)))
(.seq (.block 1 (.seq (.seq (.drw [⟨(some 23),(.q (.mv (.t 0))),none,0⟩,
⟨(some 24),(.q (.mv (.t 5))),none,0⟩,
⟨(some 25),(.q (.iaddr (.slice 1) (.t 23) (.t 24))),none,3⟩,
⟨(some 26),(.q (.ld false 1 (.t 25))),none,7⟩,
⟨(some 27),(.q (.mv (.t 1))),none,0⟩,
⟨(some 28),(.q (.mv (.t 5))),none,0⟩,
⟨(some 29),(.q (.iaddr (.slice 1) (.t 27) (.t 28))),none,48⟩,
⟨(some 30),(.q (.ld false 1 (.t 29))),none,112⟩,
⟨(some 31),(.q (.bin .lss (.p .int) (.t 26) (.t 30))),none,255⟩])
(.cond (.t 31) (.seq (.reg [⟨(some 4),(.q (.mv (.c (.int .i64 (.negSucc 0))))),none,0⟩])
.ret) .skip))
(.seq (.drw [⟨(some 32),(.q (.mv (.t 0))),none,0⟩,
⟨(some 33),(.q (.mv (.t 5))),none,0⟩,
⟨(some 34),(.q (.iaddr (.slice 1) (.t 32) (.t 33))),none,3⟩,
⟨(some 35),(.q (.ld false 1 (.t 34))),none,7⟩,
⟨(some 36),(.q (.mv (.t 1))),none,0⟩,
⟨(some 37),(.q (.mv (.t 5))),none,0⟩,
⟨(some 38),(.q (.iaddr (.slice 1) (.t 36) (.t 37))),none,48⟩,
⟨(some 39),(.q (.ld false 1 (.t 38))),none,112⟩,
⟨(some 40),(.q (.bin .gtr (.p .int) (.t 35) (.t 39))),none,255⟩])
(.cond (.t 40) (.seq (.reg [⟨(some 4),(.q (.mv (.c (.int .i64 (.ofNat 1))))),none,0⟩])
.ret) .skip))))
(.reg [⟨(some 21),(.q (.mv (.t 5))),none,0⟩,
⟨(some 22),(.q (.bin .sub (.p .int) (.t 21) (.c (.int .i64 (.ofNat 1))))),none,0⟩,
⟨(some 5),(.q (.mv (.t 22))),none,0⟩]))))))
(.seq (.reg [⟨(some 4),(.q (.mv (.c (.int .i64 (.ofNat 0))))),none,0⟩])
.ret))))⟩
theorem row43 : Row Tryd.prog (43, a43) := ⟨Tryd.f43, Tryd.func43, by kernel_rfl⟩
noncomputable def a44 : AFn :=
⟨77,[(.t 4)],(.seq (.reg [⟨(some 4),(.q (.mv (.c .nilsl))),none,0⟩])
(.seq (.seq (.reg [⟨(some 13),(.q (.mv (.t 0))),none,0⟩,
⟨(some 14),(.q (.lenSl (.t 13))),none,0⟩,
⟨(some 15),(.q (.bin .eql (.p .int) (.t 14) (.c (.int .i64 (.ofNat 0))))),none,0⟩,
⟨(some 16),(.q (.mv (.t 15))),none,0⟩,
⟨(some 17),(.q (.mv (.t 1))),(some (16,false)),0⟩,
⟨(some 18),(.q (.lenSl (.t 17))),(some (16,false)),0⟩,
⟨(some 19),(.q (.bin .eql (.p .int) (.t 18) (.c (.int .i64 (.ofNat 0))))),(some (16,false)),0⟩,
⟨(some 20),(.q (.pick (.t 16) (.c (.bool true)) (.t 19))),none,0⟩])
(.cond (.t 20) (.seq (.reg [⟨(some 4),(.q (.mv (.c .nilsl))),none,0⟩])
.ret) .skip))
(.seq (.reg [⟨(some 21),(.q (.mv (.t 0))),none,0⟩,
⟨(some 22),(.q (.lenSl (.t 21))),none,0⟩,
⟨(some 23),(.q (.mv (.t 1))),none,0⟩,
⟨(some 24),(.q (.lenSl (.t 23))),none,0⟩,
⟨(some 25),(.q (.bin .add (.p .int) (.t 22) (.t 24))),none,0⟩,
⟨(some 26),(.a (.mkSlice 30 1 4 [(.int .u32 (.ofNat 0))] (.t 25) (.t 25))),none,0⟩,
⟨(some 5),(.q (.mv (.t 26))),none,0⟩])
(.seq (.seq (.reg [⟨(some 27),(.q (.mv (.t 0))),none,0⟩,
⟨(some 28),(.q (.lenSl (.t 27))),none,0⟩,
⟨(some 29),(.q (.mv (.c (.int .i64 (.ofNat 0))))),none,0⟩])
(.block 0 (.loop (.seq (.reg [⟨(some 30),(.q (.bin .lss (.p .int) (.t 29) (.t 28))),none,0⟩])
(.seq (.cond (.t 30) .skip (.exit 0))
(.seq (.block 1 (.seq (.reg [⟨(some 31),(.q (.mv (.t 29))),none,0⟩,
⟨(some 32),(.q (.iaddr (.slice 1) (.t 27) (.t 29))),none,0⟩,
⟨(some 33),(.q (.ld false 1 (.t 32))),none,0⟩,
⟨(some 6),(.q (.mv (.t 31))),none,0⟩,
⟨(some 7),(.q (.mv (.t 33))),none,0⟩])
(.seq (.reg [⟨(some 34),(.q (.mv (.t 5))),none,0⟩,
⟨(some 35),(.q (.mv (.t 6))),none,0⟩,
⟨(some 36),(.q (.slc (.slice 1) (.t 34) (some (.t 35)) none none)),none,0⟩,
⟨(some 8),(.q (.mv (.t 36))),none,0⟩])
(.seq (.reg [⟨(some 9),(.q (.mv (.c (.int .u64 (.ofNat 0))))),none,0⟩])
(.seq (.seq (.reg [⟨(some 37),(.q (.mv (.t 1))),none,0⟩,
⟨(some 38),(.q (.lenSl (.t 37))),none,0⟩,
⟨(some 39),(.q (.mv (.c (.int .i64 (.ofNat 0))))),none,0⟩])
(.block 2 (.loop (.seq (.reg [⟨(some 40),(.q (.bin .lss (.p .int) (.t 39) (.t 38))),none,0⟩])
(.seq (.cond (.t 40) .skip (.exit 2))
(.seq (.block 3 (.seq (.reg [⟨(some 41),(.q (.mv (.t 39))),none,0⟩,
⟨(some 42),(.q (.iaddr (.slice 1) (.t 37) (.t 39))),none,0⟩,
⟨(some 43),(.q (.ld false 1 (.t 42))),none,0⟩,
⟨(some 10),(.q (.mv (.t 41))),none,0⟩,
⟨(some 11),(.q (.mv (.t 43))),none,0⟩])
(.seq (.reg [⟨(some 44),(.q (.mv (.t 7))),none,0⟩,
⟨(some 45),(.q (.conv (.int .u64) (.t 44))),none,0⟩,
⟨(some 46),(.q (.mv (.t 11))),none,0⟩,
⟨(some 47),(.q (.conv (.int .u64) (.t 46))),none,0⟩,
⟨(some 48),(.q (.bin .mul (.p .int) (.t 45) (.t 47))),none,0⟩,
⟨(some 49),(.q (.mv (.t 8))),none,0⟩,
⟨(some 50),(.q (.mv (.t 10))),none,0⟩,
⟨(some 51),(.q (.iaddr (.slice 1) (.t 49) (.t 50))),none,0⟩,
⟨(some 52),(.q (.ld false 1 (.t 51))),none,0⟩,
⟨(some 53),(.q (.conv (.int .u64) (.t 52))),none,0⟩,
⟨(some 54),(.q (.bin .add (.p .int) (.t 48) (.t 53))),none,0⟩,
⟨(some 55),(.q (.mv (.t 9))),none,0⟩,
⟨(some 56),(.q (.bin .add (.p .int) (.t 54) (.t 55))),none,0⟩,
⟨(some 12),(.q (.mv (.t 56))),none,0⟩])
(.seq (.reg [⟨(some 57),(.q (.mv (.t 12))),none,0⟩,
⟨(some 58),(.q (.bin .quo (.p .int) (.t 57) (.c (.int .u64 (.ofNat 1000000000))))),none,0⟩,
⟨(some 9),(.q (.mv (.t 58))),none,0⟩])
(.reg [⟨(some 59),(.q (.mv (.t 8))),none,0⟩,
⟨(some 60),(.q (.mv (.t 10))),none,0⟩,
⟨(some 61),(.q (.mv (.t 12))),none,0⟩,
⟨(some 62),(.q (.mv (.t 9))),none,0⟩,
⟨(some 63),(.q (.bin .mul (.p .int) (.t 62) (.c (.int .u64 (.ofNat 1000000000))))),none,0⟩,
⟨(some 64),(.q (.bin .sub (.p .int) (.t 61) (.t 63))),none,0⟩,
⟨(some 65),(.q (.conv (.int .u32) (.t 64))),none,0⟩,
⟨(some 66),(.q (.iaddr (.slice 1) (.t 59) (.t 60))),none,0⟩,
⟨none,(.x (.st 1 (.t 66) (.t 65))),none,0⟩])))))
(.reg [⟨(some 67),(.q (.bin .add (.p .int) (.t 39) (.c (.int .i64 (.ofNat 1))))),none,0⟩,
⟨(some 39),(.q (.mv (.t 67))),none,0⟩])))))))
(.reg [⟨(some 68),(.q (.mv (.t 8))),none,0⟩,
⟨(some 69),(.q (.mv (.t 1))),none,0⟩,
⟨(some 70),(.q (.lenSl (.t 69))),none,0⟩,
⟨(some 71),(.q (.mv (.t 9))),none,0⟩,
⟨(some 72),(.q (.conv (.int .u32) (.t 71))),none,0⟩,
⟨(some 73),(.q (.iaddr (.slice 1) (.t 68) (.t 70))),none,0⟩,
⟨none,(.x (.st 1 (.t 73) (.t 72))),none,0⟩]))))))
(.reg [⟨(some 74),(.q (.bin .add (.p .int) (.t 29) (.c (.int .i64 (.ofNat 1))))),none,0⟩,
⟨(some 29),(.q (.mv (.t 74))),none,0⟩])))))))
(.seq (.reg [⟨(some 75),(.q (.mv (.t 5))),none,0⟩,
⟨(some 76),(.x (.call (.c (.fn 93 [] [])) [(.t 75)])),none,0⟩,
⟨(some 4),(.q (.mv (.t 76))),none,0⟩])
.ret)))))⟩
theorem row44 : Row Tryd.prog (44, a44) := ⟨Tryd.f44, Tryd.func44, by kernel_rfl⟩
noncomputable def a45 : AFn :=
⟨9,[(.cell 2 true 3),(.t 3)],(.seq (.reg [⟨(some 1),(.a (.box 25 (.t 0))),none,0⟩,
⟨(some 2),(.a (.alloc 25 [(.bool false),.nilsl,.nilsl])),none,0⟩,
⟨(some 3),(.q (.mv (.c (.int .i64 (.ofNat 0))))),none,0⟩])
(.seq (.seq (.reg [⟨(some 4),(.q (.ld true 3 (.t 1))),none,0⟩,
⟨(some 5),(.x (.call (.c (.fn 94 [] [])) [(.t 4)])),none,0⟩,
⟨(some 6),(.q (.un .not (.t 5))),none,0⟩])
(.cond (.t 6) (.seq (.reg [⟨(some 7),(.q (.build [(.bool false),.nilsl,.nilsl] [])),none,0⟩,
⟨none,(.x (.st 3 (.t 2) (.t 7))),none,0⟩,
⟨(some 3),(.q (.mv (.c (.int .i64 (.ofNat 5))))),none,0⟩])
.ret) .skip))
(.seq (.reg [⟨(some 8),(.q (.ld true 3 (.t 1))),none,0⟩,
⟨none,(.x (.st 3 (.t 2) (.t 8))),none,0⟩,
⟨(some 3),(.q (.mv (.c (.int .i64 (.ofNat 0))))),none,0⟩])
.ret)))⟩
theorem row45 : Row Tryd.prog (45, a45) := ⟨Tryd.f45, Tryd.func45, by kernel_rfl⟩
noncomputable def a46 : AFn :=
⟨27,[(.t 6),(.t 7)],(.seq (.reg [⟨(some 6),(.q (.mv (.c (.bool false)))),none,0⟩,
⟨(some 7),(.q (.mv (.c .nilsl))),none,0⟩])
(.seq (.reg [⟨(some 11),(.q (.mv (.t 1))),none,0⟩,
⟨(some 12),(.q (.mv (.t 2))),none,0⟩,
⟨(some 13),(.x (.call (.c (.fn 95 [] [])) [(.t 11),(.t 12)])),none,0⟩,
⟨(some 10),(.q (.mv (.t 13))),none,0⟩,
⟨(some 14),(.q (.extract (.t 10) 0)),none,0⟩,
⟨(some 15),(.q (.extract (.t 10) 1)),none,0⟩,
⟨(some 8),(.q (.mv (.t 14))),none,0⟩,
⟨(some 9),(.q (.mv (.t 15))),none,0⟩])
(.seq (.seq (.reg [⟨(some 16),(.q (.mv (.t 0))),none,0⟩,
⟨(some 17),(.q (.mv (.t 16))),none,0⟩,
⟨(some 18),(.q (.mv (.t 9))),(some (17,true)),0⟩,
⟨(some 19),(.q (.lenSl (.t 18))),(some (17,true)),0⟩,
⟨(some 20),(.q (.bin .gtr (.p .int) (.t 19) (.c (.int .i64 (.ofNat 0))))),(some (17,true)),0⟩,
⟨(some 21),(.q (.pick (.t 17) (.t 20) (.c (.bool false)))),none,0⟩])
(.cond (.t 21) (.reg [⟨(some 22),(.q (.mv (.t 8))),none,0⟩,
⟨(some 23),(.x (.call (.c (.fn 37 [] [])) [])),none,0⟩,
⟨(some 24),(.x (.call (.c (.fn 96 [] [])) [(.t 22),(.t 23)])),none,0⟩,
⟨(some 8),(.q (.mv (.t 24))),none,0⟩]) .skip))
(.seq (.reg [⟨(some 25),(.q (.mv (.t 0))),none,0⟩,
⟨(some 26),(.q (.mv (.t 8))),none,0⟩,
⟨(some 6),(.q (.mv (.t 25))),none,0⟩,
⟨(some 7),(.q (.mv (.t 26))),none,0⟩])
.ret))))⟩
theorem row46 : Row Tryd.prog (46, a46) := ⟨Tryd.f46, Tryd.func46, by kernel_rfl⟩
end Go.Proofs.YtopemogpgppjlaaDoor.ratKnown
