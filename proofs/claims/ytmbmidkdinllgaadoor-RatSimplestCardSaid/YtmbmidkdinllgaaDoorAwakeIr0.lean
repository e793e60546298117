/- The functions that Awake reaches, as data of the evaluator (part 0), written by program; each is shown to be the compiler's result on the loaded function. -/
import Derived.Test.YtmbmidkdinllgaaDoorProg
import Derived.Test.YtmbmidkdinllgaaDoorEv8
import Derived.KernelRfl
namespace Go.Ev.Gl
end Go.Ev.Gl
namespace Go.Proofs.YtmbmidkdinllgaaDoor.awake
open Go.Ev Go.Ev.Gl
set_option maxRecDepth 100000
noncomputable def a14 : AFn :=
⟨24,[(.t 4)],(.seq (.reg [⟨(some 2),(.a (.box 25 (.t 0))),none,0⟩,
⟨(some 3),(.a (.box 25 (.t 1))),none,0⟩,
⟨(some 4),(.q (.mv (.c (.bool false)))),none,0⟩])
(.seq (.reg [⟨(some 5),(.q (.faddr 0 (.t 2))),none,0⟩,
⟨(some 6),(.q (.ld false 1 (.t 5))),none,0⟩,
⟨(some 7),(.q (.faddr 0 (.t 3))),none,0⟩,
⟨(some 8),(.q (.ld false 1 (.t 7))),none,0⟩,
⟨(some 9),(.q (.bin .eql (.p .bool) (.t 6) (.t 8))),none,0⟩,
⟨(some 10),(.q (.mv (.t 9))),none,0⟩,
⟨(some 11),(.q (.faddr 1 (.t 2))),(some (10,true)),0⟩,
⟨(some 12),(.q (.ld false 1 (.t 11))),(some (10,true)),0⟩,
⟨(some 13),(.q (.faddr 1 (.t 3))),(some (10,true)),0⟩,
⟨(some 14),(.q (.ld false 1 (.t 13))),(some (10,true)),0⟩,
⟨(some 15),(.x (.call (.c (.fn 38 [] [])) [(.t 12),(.t 14)])),(some (10,true)),0⟩,
⟨(some 16),(.q (.pick (.t 10) (.t 15) (.c (.bool false)))),none,0⟩,
⟨(some 17),(.q (.mv (.t 16))),none,0⟩,
⟨(some 18),(.q (.faddr 2 (.t 2))),(some (17,true)),0⟩,
⟨(some 19),(.q (.ld false 1 (.t 18))),(some (17,true)),0⟩,
⟨(some 20),(.q (.faddr 2 (.t 3))),(some (17,true)),0⟩,
⟨(some 21),(.q (.ld false 1 (.t 20))),(some (17,true)),0⟩,
⟨(some 22),(.x (.call (.c (.fn 38 [] [])) [(.t 19),(.t 21)])),(some (17,true)),0⟩,
⟨(some 23),(.q (.pick (.t 17) (.t 22) (.c (.bool false)))),none,0⟩,
⟨(some 4),(.q (.mv (.t 23))),none,0⟩])
.ret))⟩
theorem row14 : Row Tryd.prog (14, a14) := ⟨Tryd.f14, Tryd.func14, by kernel_rfl⟩
noncomputable def a26 : AFn :=
⟨21,[(.cell 4 true 3),(.t 5)],(.seq (.reg [⟨(some 2),(.a (.box 25 (.t 0))),none,0⟩,
⟨(some 3),(.a (.box 25 (.t 1))),none,0⟩,
⟨(some 4),(.a (.alloc 25 [(.bool false),.nilsl,.nilsl])),none,0⟩,
⟨(some 5),(.q (.mv (.c (.int .i64 (.ofNat 0))))),none,0⟩])
(.seq (.seq (.reg [⟨(some 7),(.q (.ld true 3 (.t 2))),none,0⟩,
⟨(some 8),(.q (.ld true 3 (.t 3))),none,0⟩,
⟨(some 9),(.x (.call (.c (.fn 62 [] [])) [(.t 7),(.t 8)])),none,0⟩,
⟨(some 6),(.q (.mv (.t 9))),none,0⟩])
(.seq (.reg [⟨(some 10),(.q (.mv (.t 6))),none,0⟩,
⟨(some 11),(.q (.bin .neq (.p .int) (.t 10) (.c (.int .i64 (.ofNat 0))))),none,0⟩])
(.cond (.t 11) (.seq (.reg [⟨(some 12),(.q (.build [(.bool false),.nilsl,.nilsl] [])),none,0⟩,
⟨(some 13),(.q (.mv (.t 6))),none,0⟩,
⟨none,(.x (.st 3 (.t 4) (.t 12))),none,0⟩,
⟨(some 5),(.q (.mv (.t 13))),none,0⟩])
.ret) .skip)))
(.seq (.reg [⟨(some 14),(.q (.ld true 3 (.t 2))),none,0⟩,
⟨(some 15),(.q (.ld true 3 (.t 3))),none,0⟩,
⟨(some 16),(.q (.build [(.bool false),.nilsl,.nilsl,(.bool false),.nilsl,.nilsl] [(0,3,(.t 14)),(3,3,(.t 15))])),none,0⟩,
⟨(some 17),(.a (.bslice 80 6 1 [(.bool false),.nilsl,.nilsl,(.bool false),.nilsl,.nilsl] [(0,(.t 16))])),none,0⟩,
⟨(some 18),(.x (.call (.c (.fn 67 [] [])) [(.t 17)])),none,0⟩,
⟨(some 19),(.q (.extract (.t 18) 0)),none,0⟩,
⟨(some 20),(.q (.extract (.t 18) 1)),none,0⟩,
⟨none,(.x (.st 3 (.t 4) (.t 19))),none,0⟩,
⟨(some 5),(.q (.mv (.t 20))),none,0⟩])
.ret)))⟩
theorem row26 : Row Tryd.prog (26, a26) := ⟨Tryd.f26, Tryd.func26, by kernel_rfl⟩
noncomputable def a38 : AFn :=
⟨26,[(.t 4)],(.seq (.reg [⟨(some 4),(.q (.mv (.c (.bool false)))),none,0⟩])
(.seq (.seq (.reg [⟨(some 6),(.q (.mv (.t 0))),none,0⟩,
⟨(some 7),(.q (.lenSl (.t 6))),none,0⟩,
⟨(some 8),(.q (.mv (.t 1))),none,0⟩,
⟨(some 9),(.q (.lenSl (.t 8))),none,0⟩,
⟨(some 10),(.q (.bin .neq (.p .int) (.t 7) (.t 9))),none,0⟩])
(.cond (.t 10) (.seq (.reg [⟨(some 4),(.q (.mv (.c (.bool false)))),none,0⟩])
.ret) .skip))
(.seq (.seq (.reg [⟨(some 5),(.q (.mv (.c (.int .i64 (.ofNat 0))))),none,0⟩])
(.block 0 (.loop (.seq (.seq (.reg [⟨(some 11),(.q (.mv (.t 5))),none,0⟩,
⟨(some 12),(.q (.mv (.t 0))),none,0⟩,
⟨(some 13),(.q (.lenSl (.t 12))),none,0⟩,
⟨(some 14),(.q (.bin .lss (.p .int) (.t 11) (.t 13))),none,0⟩])
(.cond (.t 14) .skip (.exit 0)))
(.seq (.block 1 (.seq (.drw [⟨(some 17),(.q (.mv (.t 0))),none,0⟩,
⟨(some 18),(.q (.mv (.t 5))),none,0⟩,
⟨(some 19),(.q (.iaddr (.slice 1) (.t 17) (.t 18))),none,3⟩,
⟨(some 20),(.q (.ld false 1 (.t 19))),none,7⟩,
⟨(some 21),(.q (.mv (.t 1))),none,0⟩,
⟨(some 22),(.q (.mv (.t 5))),none,0⟩,
⟨(some 23),(.q (.iaddr (.slice 1) (.t 21) (.t 22))),none,48⟩,
⟨(some 24),(.q (.ld false 1 (.t 23))),none,112⟩,
⟨(some 25),(.q (.bin .neq (.p .int) (.t 20) (.t 24))),none,255⟩])
(.cond (.t 25) (.seq (.reg [⟨(some 4),(.q (.mv (.c (.bool false)))),none,0⟩])
.ret) .skip)))
(.reg [⟨(some 15),(.q (.mv (.t 5))),none,0⟩,
⟨(some 16),(.q (.bin .add (.p .int) (.t 15) (.c (.int .i64 (.ofNat 1))))),none,0⟩,
⟨(some 5),(.q (.mv (.t 16))),none,0⟩]))))))
(.seq (.reg [⟨(some 4),(.q (.mv (.c (.bool true)))),none,0⟩])
.ret))))⟩
theorem row38 : Row Tryd.prog (38, a38) := ⟨Tryd.f38, Tryd.func38, by kernel_rfl⟩
noncomputable def a45 : AFn :=
⟨62,[(.t 4),(.t 5)],(.seq (.reg [⟨(some 2),(.a (.box 25 (.t 0))),none,0⟩,
⟨(some 4),(.q (.mv (.c (.int .i64 (.ofNat 0))))),none,0⟩,
⟨(some 5),(.q (.mv (.c (.int .i64 (.ofNat 0))))),none,0⟩])
(.seq (.seq (.reg [⟨(some 11),(.q (.ld true 3 (.t 2))),none,0⟩,
⟨(some 12),(.x (.call (.c (.fn 31 [] [])) [(.t 11)])),none,0⟩,
⟨(some 6),(.q (.mv (.t 12))),none,0⟩])
(.seq (.reg [⟨(some 13),(.q (.mv (.t 6))),none,0⟩,
⟨(some 14),(.q (.bin .neq (.p .int) (.t 13) (.c (.int .i64 (.ofNat 0))))),none,0⟩])
(.cond (.t 14) (.seq (.reg [⟨(some 15),(.q (.mv (.t 6))),none,0⟩,
⟨(some 4),(.q (.mv (.c (.int .i64 (.ofNat 0))))),none,0⟩,
⟨(some 5),(.q (.mv (.t 15))),none,0⟩])
.ret) .skip)))
(.seq (.drw [⟨(some 17),(.q (.faddr 0 (.t 2))),none,0⟩,
⟨(some 18),(.q (.ld false 1 (.t 17))),none,1⟩,
⟨(some 19),(.q (.mv (.t 1))),none,0⟩,
⟨(some 20),(.q (.bin .lss (.p .int) (.t 19) (.c (.int .i64 (.ofNat 0))))),none,4⟩,
⟨(some 21),(.q (.bin .neq (.p .bool) (.t 18) (.t 20))),none,15⟩,
⟨(some 22),(.q (.faddr 1 (.t 2))),none,0⟩,
⟨(some 23),(.q (.ld false 1 (.t 22))),none,32⟩,
⟨(some 24),(.q (.mv (.t 1))),none,0⟩,
⟨(some 25),(.x (.call (.c (.fn 82 [] [])) [(.t 24)])),none,128⟩,
⟨(some 26),(.x (.call (.c (.fn 81 [] [])) [(.t 25)])),none,384⟩,
⟨(some 27),(.x (.call (.c (.fn 64 [] [])) [(.t 23),(.t 26)])),none,992⟩,
⟨(some 28),(.q (.faddr 2 (.t 2))),none,0⟩,
⟨(some 29),(.q (.ld false 1 (.t 28))),none,2048⟩,
⟨(some 30),(.x (.call (.c (.fn 79 [] [])) [(.t 21),(.t 27),(.t 29)])),none,8191⟩,
⟨(some 16),(.q (.mv (.t 30))),none,16383⟩,
⟨(some 31),(.q (.extract (.t 16) 0)),none,32767⟩,
⟨(some 32),(.q (.extract (.t 16) 1)),none,32767⟩,
⟨(some 7),(.q (.mv (.t 31))),none,65535⟩,
⟨(some 8),(.q (.mv (.t 32))),none,262143⟩])
(.seq (.reg [⟨(some 34),(.q (.mv (.t 8))),none,0⟩,
⟨(some 35),(.x (.call (.c (.fn 87 [] [])) [(.t 34)])),none,0⟩,
⟨(some 33),(.q (.mv (.t 35))),none,0⟩,
⟨(some 36),(.q (.extract (.t 33) 0)),none,0⟩,
⟨(some 37),(.q (.extract (.t 33) 1)),none,0⟩,
⟨(some 9),(.q (.mv (.t 36))),none,0⟩,
⟨(some 10),(.q (.mv (.t 37))),none,0⟩])
(.seq (.block 0 (.seq (.reg [⟨(some 39),(.q (.mv (.t 10))),none,0⟩,
⟨(some 40),(.q (.mv (.t 39))),none,0⟩,
⟨(some 41),(.q (.mv (.t 7))),(some (40,true)),0⟩,
⟨(some 42),(.q (.un .not (.t 41))),(some (40,true)),0⟩,
⟨(some 43),(.q (.pick (.t 40) (.t 42) (.c (.bool false)))),none,0⟩,
⟨(some 44),(.q (.mv (.t 43))),none,0⟩,
⟨(some 45),(.q (.mv (.t 9))),(some (44,true)),0⟩,
⟨(some 46),(.q (.bin .leq (.p .int) (.t 45) (.c (.int .u64 (.ofNat 9223372036854775807))))),(some (44,true)),0⟩,
⟨(some 47),(.q (.pick (.t 44) (.t 46) (.c (.bool false)))),none,0⟩,
⟨(some 38),(.q (.mv (.t 47))),none,0⟩])
(.cond (.t 38) (.seq (.reg [⟨(some 48),(.q (.mv (.t 9))),none,0⟩,
⟨(some 49),(.q (.conv (.int .i64) (.t 48))),none,0⟩,
⟨(some 4),(.q (.mv (.t 49))),none,0⟩,
⟨(some 5),(.q (.mv (.c (.int .i64 (.ofNat 0))))),none,0⟩])
.ret) (.seq (.reg [⟨(some 51),(.q (.mv (.t 10))),none,0⟩,
⟨(some 52),(.q (.mv (.t 51))),none,0⟩,
⟨(some 53),(.q (.mv (.t 7))),(some (52,true)),0⟩,
⟨(some 54),(.q (.pick (.t 52) (.t 53) (.c (.bool false)))),none,0⟩,
⟨(some 55),(.q (.mv (.t 54))),none,0⟩,
⟨(some 56),(.q (.mv (.t 9))),(some (55,true)),0⟩,
⟨(some 57),(.q (.bin .leq (.p .int) (.t 56) (.c (.int .u64 (.ofNat 9223372036854775808))))),(some (55,true)),0⟩,
⟨(some 58),(.q (.pick (.t 55) (.t 57) (.c (.bool false)))),none,0⟩,
⟨(some 50),(.q (.mv (.t 58))),none,0⟩])
(.cond (.t 50) (.seq (.reg [⟨(some 59),(.q (.mv (.t 9))),none,0⟩,
⟨(some 60),(.q (.un .neg (.t 59))),none,0⟩,
⟨(some 61),(.q (.conv (.int .i64) (.t 60))),none,0⟩,
⟨(some 4),(.q (.mv (.t 61))),none,0⟩,
⟨(some 5),(.q (.mv (.c (.int .i64 (.ofNat 0))))),none,0⟩])
.ret) .skip)))))
(.seq (.reg [⟨(some 4),(.q (.mv (.c (.int .i64 (.ofNat 0))))),none,0⟩,
⟨(some 5),(.q (.mv (.c (.int .i64 (.ofNat 5))))),none,0⟩])
.ret))))))⟩
theorem row45 : Row Tryd.prog (45, a45) := ⟨Tryd.f45, Tryd.func45, by kernel_rfl⟩
noncomputable def a49 : AFn :=
⟨18,[(.t 8)],(.seq (.reg [⟨(some 4),(.a (.box 25 (.t 0))),none,0⟩,
⟨(some 8),(.q (.mv (.c (.bool false)))),none,0⟩])
(.seq (.drw [⟨(some 9),(.q (.mv (.t 1))),none,0⟩,
⟨(some 10),(.q (.bin .eql (.p .int) (.t 9) (.c (.int .i64 (.ofNat 0))))),none,1⟩,
⟨(some 11),(.q (.mv (.t 10))),none,3⟩,
⟨(some 12),(.q (.ld true 3 (.t 4))),(some (11,true)),7⟩,
⟨(some 13),(.q (.mv (.t 2))),(some (11,true)),7⟩,
⟨(some 14),(.q (.mv (.t 3))),(some (11,true)),7⟩,
⟨(some 15),(.x (.call (.c (.fn 19 [] [])) [(.t 13),(.t 14)])),(some (11,true)),55⟩,
⟨(some 16),(.x (.call (.c (.fn 14 [] [])) [(.t 12),(.t 15)])),(some (11,true)),127⟩,
⟨(some 17),(.q (.pick (.t 11) (.t 16) (.c (.bool false)))),none,255⟩,
⟨(some 8),(.q (.mv (.t 17))),none,511⟩])
.ret))⟩
theorem row49 : Row Tryd.prog (49, a49) := ⟨Tryd.f49, Tryd.func49, by kernel_rfl⟩
noncomputable def a79 : AFn :=
⟨27,[(.t 6),(.t 7)],(.seq (.reg [⟨(some 6),(.q (.mv (.c (.bool false)))),none,0⟩,
⟨(some 7),(.q (.mv (.c .nilsl))),none,0⟩])
(.seq (.reg [⟨(some 11),(.q (.mv (.t 1))),none,0⟩,
⟨(some 12),(.q (.mv (.t 2))),none,0⟩,
⟨(some 13),(.x (.call (.c (.fn 98 [] [])) [(.t 11),(.t 12)])),none,0⟩,
⟨(some 10),(.q (.mv (.t 13))),none,0⟩,
⟨(some 14),(.q (.extract (.t 10) 0)),none,0⟩,
⟨(some 15),(.q (.extract (.t 10) 1)),none,0⟩,
⟨(some 8),(.q (.mv (.t 14))),none,0⟩,
⟨(some 9),(.q (.mv (.t 15))),none,0⟩])
(.seq (.seq (.reg [⟨(some 16),(.q (.mv (.t 0))),none,0⟩,
⟨(some 17),(.q (.mv (.t 16))),none,0⟩,
⟨(some 18),(.q (.mv (.t 9))),(some (17,true)),0⟩,
⟨(some 19),(.q (.lenSl (.t 18))),(some (17,true)),0⟩,
⟨(some 20),(.q (.bin .gtr (.p .int) (.t 19) (.c (.int .i64 (.ofNat 0))))),(some (17,true)),0⟩,
⟨(some 21),(.q (.pick (.t 17) (.t 20) (.c (.bool false)))),none,0⟩])
(.cond (.t 21) (.reg [⟨(some 22),(.q (.mv (.t 8))),none,0⟩,
⟨(some 23),(.x (.call (.c (.fn 66 [] [])) [])),none,0⟩,
⟨(some 24),(.x (.call (.c (.fn 99 [] [])) [(.t 22),(.t 23)])),none,0⟩,
⟨(some 8),(.q (.mv (.t 24))),none,0⟩]) .skip))
(.seq (.reg [⟨(some 25),(.q (.mv (.t 0))),none,0⟩,
⟨(some 26),(.q (.mv (.t 8))),none,0⟩,
⟨(some 6),(.q (.mv (.t 25))),none,0⟩,
⟨(some 7),(.q (.mv (.t 26))),none,0⟩])
.ret))))⟩
theorem row79 : Row Tryd.prog (79, a79) := ⟨Tryd.f79, Tryd.func79, by kernel_rfl⟩
noncomputable def a82 : AFn :=
⟨10,[(.t 2)],(.seq (.reg [⟨(some 2),(.q (.mv (.c (.int .u64 (.ofNat 0))))),none,0⟩])
(.seq (.seq (.reg [⟨(some 3),(.q (.mv (.t 0))),none,0⟩,
⟨(some 4),(.q (.bin .lss (.p .int) (.t 3) (.c (.int .i64 (.ofNat 0))))),none,0⟩])
(.cond (.t 4) (.seq (.reg [⟨(some 5),(.q (.mv (.t 0))),none,0⟩,
⟨(some 6),(.q (.conv (.int .u64) (.t 5))),none,0⟩,
⟨(some 7),(.q (.un .neg (.t 6))),none,0⟩,
⟨(some 2),(.q (.mv (.t 7))),none,0⟩])
.ret) .skip))
(.seq (.reg [⟨(some 8),(.q (.mv (.t 0))),none,0⟩,
⟨(some 9),(.q (.conv (.int .u64) (.t 8))),none,0⟩,
⟨(some 2),(.q (.mv (.t 9))),none,0⟩])
.ret)))⟩
theorem row82 : Row Tryd.prog (82, a82) := ⟨Tryd.f82, Tryd.func82, by kernel_rfl⟩
noncomputable def a87 : AFn :=
⟨41,[(.t 2),(.t 3)],(.seq (.reg [⟨(some 2),(.q (.mv (.c (.int .u64 (.ofNat 0))))),none,0⟩,
⟨(some 3),(.q (.mv (.c (.bool false)))),none,0⟩])
(.seq (.seq (.reg [⟨(some 10),(.q (.mv (.t 0))),none,0⟩,
⟨(some 11),(.q (.lenSl (.t 10))),none,0⟩,
⟨(some 12),(.q (.bin .gtr (.p .int) (.t 11) (.c (.int .i64 (.ofNat 3))))),none,0⟩])
(.cond (.t 12) (.seq (.reg [⟨(some 2),(.q (.mv (.c (.int .u64 (.ofNat 0))))),none,0⟩,
⟨(some 3),(.q (.mv (.c (.bool false)))),none,0⟩])
.ret) .skip))
(.seq (.reg [⟨(some 4),(.q (.mv (.c (.int .u64 (.ofNat 0))))),none,0⟩])
(.seq (.seq (.reg [⟨(some 13),(.q (.mv (.t 0))),none,0⟩,
⟨(some 14),(.q (.lenSl (.t 13))),none,0⟩,
⟨(some 15),(.q (.bin .sub (.p .int) (.t 14) (.c (.int .i64 (.ofNat 1))))),none,0⟩,
⟨(some 5),(.q (.mv (.t 15))),none,0⟩])
(.block 0 (.loop (.seq (.seq (.reg [⟨(some 16),(.q (.mv (.t 5))),none,0⟩,
⟨(some 17),(.q (.bin .geq (.p .int) (.t 16) (.c (.int .i64 (.ofNat 0))))),none,0⟩])
(.cond (.t 17) .skip (.exit 0)))
(.seq (.block 1 (.seq (.reg [⟨(some 21),(.q (.mv (.t 4))),none,0⟩,
⟨(some 22),(.x (.call (.c (.fn 122 [] [])) [(.t 21),(.c (.int .u64 (.ofNat 1000000000)))])),none,0⟩,
⟨(some 20),(.q (.mv (.t 22))),none,0⟩,
⟨(some 23),(.q (.extract (.t 20) 0)),none,0⟩,
⟨(some 24),(.q (.extract (.t 20) 1)),none,0⟩,
⟨(some 6),(.q (.mv (.t 23))),none,0⟩,
⟨(some 7),(.q (.mv (.t 24))),none,0⟩])
(.seq (.reg [⟨(some 26),(.q (.mv (.t 7))),none,0⟩,
⟨(some 27),(.q (.mv (.t 0))),none,0⟩,
⟨(some 28),(.q (.mv (.t 5))),none,0⟩,
⟨(some 29),(.q (.iaddr (.slice 1) (.t 27) (.t 28))),none,0⟩,
⟨(some 30),(.q (.ld false 1 (.t 29))),none,0⟩,
⟨(some 31),(.q (.conv (.int .u64) (.t 30))),none,0⟩,
⟨(some 32),(.x (.ext .add64 [(.t 26),(.t 31),(.c (.int .u64 (.ofNat 0)))])),none,0⟩,
⟨(some 25),(.q (.mv (.t 32))),none,0⟩,
⟨(some 33),(.q (.extract (.t 25) 0)),none,0⟩,
⟨(some 34),(.q (.extract (.t 25) 1)),none,0⟩,
⟨(some 8),(.q (.mv (.t 33))),none,0⟩,
⟨(some 9),(.q (.mv (.t 34))),none,0⟩])
(.seq (.seq (.reg [⟨(some 35),(.q (.mv (.t 6))),none,0⟩,
⟨(some 36),(.q (.mv (.t 9))),none,0⟩,
⟨(some 37),(.q (.bin .add (.p .int) (.t 35) (.t 36))),none,0⟩,
⟨(some 38),(.q (.bin .gtr (.p .int) (.t 37) (.c (.int .u64 (.ofNat 0))))),none,0⟩])
(.cond (.t 38) (.seq (.reg [⟨(some 2),(.q (.mv (.c (.int .u64 (.ofNat 0))))),none,0⟩,
⟨(some 3),(.q (.mv (.c (.bool false)))),none,0⟩])
.ret) .skip))
(.reg [⟨(some 39),(.q (.mv (.t 8))),none,0⟩,
⟨(some 4),(.q (.mv (.t 39))),none,0⟩])))))
(.reg [⟨(some 18),(.q (.mv (.t 5))),none,0⟩,
⟨(some 19),(.q (.bin .sub (.p .int) (.t 18) (.c (.int .i64 (.ofNat 1))))),none,0⟩,
⟨(some 5),(.q (.mv (.t 19))),none,0⟩]))))))
(.seq (.reg [⟨(some 40),(.q (.mv (.t 4))),none,0⟩,
⟨(some 2),(.q (.mv (.t 40))),none,0⟩,
⟨(some 3),(.q (.mv (.c (.bool true)))),none,0⟩])
.ret)))))⟩
theorem row87 : Row Tryd.prog (87, a87) := ⟨Tryd.f87, Tryd.func87, by kernel_rfl⟩
noncomputable def a122 : AFn :=
⟨51,[(.t 4),(.t 5)],(.seq (.reg [⟨(some 4),(.q (.mv (.c (.int .u64 (.ofNat 0))))),none,0⟩,
⟨(some 5),(.q (.mv (.c (.int .u64 (.ofNat 0))))),none,0⟩])
(.seq (.reg [⟨(some 14),(.q (.mv (.t 0))),none,0⟩,
⟨(some 15),(.q (.bin .and (.p .int) (.t 14) (.c (.int .u64 (.ofNat 4294967295))))),none,0⟩,
⟨(some 6),(.q (.mv (.t 15))),none,0⟩])
(.seq (.reg [⟨(some 16),(.q (.mv (.t 0))),none,0⟩,
⟨(some 17),(.q (.bin .shr (.p .int) (.t 16) (.c (.int .u64 (.ofNat 32))))),none,0⟩,
⟨(some 7),(.q (.mv (.t 17))),none,0⟩])
(.seq (.reg [⟨(some 18),(.q (.mv (.t 1))),none,0⟩,
⟨(some 19),(.q (.bin .and (.p .int) (.t 18) (.c (.int .u64 (.ofNat 4294967295))))),none,0⟩,
⟨(some 8),(.q (.mv (.t 19))),none,0⟩])
(.seq (.reg [⟨(some 20),(.q (.mv (.t 1))),none,0⟩,
⟨(some 21),(.q (.bin .shr (.p .int) (.t 20) (.c (.int .u64 (.ofNat 32))))),none,0⟩,
⟨(some 9),(.q (.mv (.t 21))),none,0⟩])
(.seq (.reg [⟨(some 22),(.q (.mv (.t 6))),none,0⟩,
⟨(some 23),(.q (.mv (.t 8))),none,0⟩,
⟨(some 24),(.q (.bin .mul (.p .int) (.t 22) (.t 23))),none,0⟩,
⟨(some 10),(.q (.mv (.t 24))),none,0⟩])
(.seq (.reg [⟨(some 25),(.q (.mv (.t 7))),none,0⟩,
⟨(some 26),(.q (.mv (.t 8))),none,0⟩,
⟨(some 27),(.q (.bin .mul (.p .int) (.t 25) (.t 26))),none,0⟩,
⟨(some 28),(.q (.mv (.t 10))),none,0⟩,
⟨(some 29),(.q (.bin .shr (.p .int) (.t 28) (.c (.int .u64 (.ofNat 32))))),none,0⟩,
⟨(some 30),(.q (.bin .add (.p .int) (.t 27) (.t 29))),none,0⟩,
⟨(some 11),(.q (.mv (.t 30))),none,0⟩])
(.seq (.reg [⟨(some 31),(.q (.mv (.t 11))),none,0⟩,
⟨(some 32),(.q (.bin .and (.p .int) (.t 31) (.c (.int .u64 (.ofNat 4294967295))))),none,0⟩,
⟨(some 12),(.q (.mv (.t 32))),none,0⟩])
(.seq (.reg [⟨(some 33),(.q (.mv (.t 11))),none,0⟩,
⟨(some 34),(.q (.bin .shr (.p .int) (.t 33) (.c (.int .u64 (.ofNat 32))))),none,0⟩,
⟨(some 13),(.q (.mv (.t 34))),none,0⟩])
(.seq (.reg [⟨(some 35),(.q (.mv (.t 12))),none,0⟩,
⟨(some 36),(.q (.mv (.t 6))),none,0⟩,
⟨(some 37),(.q (.mv (.t 9))),none,0⟩,
⟨(some 38),(.q (.bin .mul (.p .int) (.t 36) (.t 37))),none,0⟩,
⟨(some 39),(.q (.bin .add (.p .int) (.t 35) (.t 38))),none,0⟩,
⟨(some 12),(.q (.mv (.t 39))),none,0⟩])
(.seq (.reg [⟨(some 40),(.q (.mv (.t 7))),none,0⟩,
⟨(some 41),(.q (.mv (.t 9))),none,0⟩,
⟨(some 42),(.q (.bin .mul (.p .int) (.t 40) (.t 41))),none,0⟩,
⟨(some 43),(.q (.mv (.t 13))),none,0⟩,
⟨(some 44),(.q (.bin .add (.p .int) (.t 42) (.t 43))),none,0⟩,
⟨(some 45),(.q (.mv (.t 12))),none,0⟩,
⟨(some 46),(.q (.bin .shr (.p .int) (.t 45) (.c (.int .u64 (.ofNat 32))))),none,0⟩,
⟨(some 47),(.q (.bin .add (.p .int) (.t 44) (.t 46))),none,0⟩,
⟨(some 4),(.q (.mv (.t 47))),none,0⟩])
(.seq (.reg [⟨(some 48),(.q (.mv (.t 0))),none,0⟩,
⟨(some 49),(.q (.mv (.t 1))),none,0⟩,
⟨(some 50),(.q (.bin .mul (.p .int) (.t 48) (.t 49))),none,0⟩,
⟨(some 5),(.q (.mv (.t 50))),none,0⟩])
.ret))))))))))))⟩
theorem row122 : Row Tryd.prog (122, a122) := ⟨Tryd.f122, Tryd.func122, by kernel_rfl⟩
end Go.Proofs.YtmbmidkdinllgaaDoor.awake
