/- The functions that ReduceKnown reaches, as data of the evaluator (part 2), written by program; each is shown to be the compiler's result on the loaded function. -/
import Derived.Test.YtopemogpgppjlaaGreatDoorProg
import Derived.Test.YtopemogpgppjlaaGreatDoorEv7
import Derived.KernelRfl
namespace Go.Proofs.YtopemogpgppjlaaGreatDoor.reduceKnown
open Go.Ev
set_option maxRecDepth 100000
noncomputable def a152 : AFn :=
⟨25,[(.t 2)],(.seq (.reg [⟨(some 2),(.q (.mv (.c (.int .i64 (.ofNat 0))))),none,0⟩])
(.seq (.seq (.reg [⟨(some 5),(.q (.mv (.t 0))),none,0⟩,
⟨(some 6),(.q (.lenSl (.t 5))),none,0⟩,
⟨(some 7),(.q (.bin .lss (.p .int) (.t 6) (.c (.int .i64 (.ofNat 1))))),none,0⟩])
(.cond (.t 7) (.reg [⟨(some 8),(.q (.mkIface 9 (.c (.str [115,108,105,99,101,115,46,77,97,120,58,32,101,109,112,116,121,32,108,105,115,116])))),none,0⟩,
⟨none,(.x (.bad)),none,0⟩]) .skip))
(.seq (.reg [⟨(some 9),(.q (.mv (.t 0))),none,0⟩,
⟨(some 10),(.q (.iaddr (.slice 1) (.t 9) (.c (.int .i64 (.ofNat 0))))),none,0⟩,
⟨(some 11),(.q (.ld false 1 (.t 10))),none,0⟩,
⟨(some 3),(.q (.mv (.t 11))),none,0⟩])
(.seq (.seq (.reg [⟨(some 4),(.q (.mv (.c (.int .i64 (.ofNat 1))))),none,0⟩])
(.block 0 (.loop (.seq (.seq (.reg [⟨(some 12),(.q (.mv (.t 4))),none,0⟩,
⟨(some 13),(.q (.mv (.t 0))),none,0⟩,
⟨(some 14),(.q (.lenSl (.t 13))),none,0⟩,
⟨(some 15),(.q (.bin .lss (.p .int) (.t 12) (.t 14))),none,0⟩])
(.cond (.t 15) .skip (.exit 0)))
(.seq (.block 1 (.reg [⟨(some 18),(.q (.mv (.t 3))),none,0⟩,
⟨(some 19),(.q (.mv (.t 0))),none,0⟩,
⟨(some 20),(.q (.mv (.t 4))),none,0⟩,
⟨(some 21),(.q (.iaddr (.slice 1) (.t 19) (.t 20))),none,0⟩,
⟨(some 22),(.q (.ld false 1 (.t 21))),none,0⟩,
⟨(some 23),(.q (.minmax true [(.t 18),(.t 22)])),none,0⟩,
⟨(some 3),(.q (.mv (.t 23))),none,0⟩]))
(.reg [⟨(some 16),(.q (.mv (.t 4))),none,0⟩,
⟨(some 17),(.q (.bin .add (.p .int) (.t 16) (.c (.int .i64 (.ofNat 1))))),none,0⟩,
⟨(some 4),(.q (.mv (.t 17))),none,0⟩]))))))
(.seq (.reg [⟨(some 24),(.q (.mv (.t 3))),none,0⟩,
⟨(some 2),(.q (.mv (.t 24))),none,0⟩])
.ret)))))⟩
theorem row152 : Row Tryz.prog (152, a152) := ⟨Tryz.f152, Tryz.func152, by kernel_rfl⟩
noncomputable def a153 : AFn :=
⟨80,[(.t 2)],(.seq (.reg [⟨(some 2),(.q (.mv (.c (.int .i64 (.ofNat 0))))),none,0⟩])
(.seq (.reg [⟨(some 8),(.q (.mv (.t 0))),none,0⟩,
⟨(some 9),(.q (.nilchk (.t 8))),none,0⟩,
⟨(some 10),(.q (.faddr 0 (.t 9))),none,0⟩,
⟨(some 11),(.q (.faddr 2 (.t 10))),none,0⟩,
⟨(some 12),(.q (.ld false 1 (.t 11))),none,0⟩,
⟨(some 13),(.q (.lenSl (.t 12))),none,0⟩,
⟨(some 14),(.a (.mkSlice 3 1 8 [(.int .i64 (.ofNat 0))] (.t 13) (.t 13))),none,0⟩,
⟨(some 3),(.q (.mv (.t 14))),none,0⟩])
(.seq (.seq (.reg [⟨(some 15),(.q (.mv (.t 0))),none,0⟩,
⟨(some 16),(.q (.nilchk (.t 15))),none,0⟩,
⟨(some 17),(.q (.faddr 0 (.t 16))),none,0⟩,
⟨(some 18),(.q (.faddr 1 (.t 17))),none,0⟩,
⟨(some 19),(.q (.ld false 1 (.t 18))),none,0⟩,
⟨(some 20),(.q (.lenSl (.t 19))),none,0⟩,
⟨(some 21),(.q (.bin .sub (.p .int) (.t 20) (.c (.int .i64 (.ofNat 1))))),none,0⟩,
⟨(some 4),(.q (.mv (.t 21))),none,0⟩])
(.block 0 (.loop (.seq (.seq (.reg [⟨(some 22),(.q (.mv (.t 4))),none,0⟩,
⟨(some 23),(.q (.bin .geq (.p .int) (.t 22) (.c (.int .i64 (.ofNat 0))))),none,0⟩])
(.cond (.t 23) .skip (.exit 0)))
(.seq (.block 1 (.seq (.reg [⟨(some 26),(.q (.mv (.t 0))),none,0⟩,
⟨(some 27),(.q (.nilchk (.t 26))),none,0⟩,
⟨(some 28),(.q (.faddr 0 (.t 27))),none,0⟩,
⟨(some 29),(.q (.faddr 1 (.t 28))),none,0⟩,
⟨(some 30),(.q (.ld false 1 (.t 29))),none,0⟩,
⟨(some 31),(.q (.mv (.t 4))),none,0⟩,
⟨(some 32),(.q (.iaddr (.slice 6) (.t 30) (.t 31))),none,0⟩,
⟨(some 33),(.q (.ld true 6 (.t 32))),none,0⟩,
⟨(some 5),(.a (.alloc 75 [(.int .i64 (.ofNat 0)),(.int .i64 (.ofNat 0)),(.int .i64 (.ofNat 0)),.nilsl,.nilsl,.nilsl])),none,0⟩,
⟨none,(.x (.st 6 (.t 5) (.t 33))),none,0⟩])
(.seq (.reg [⟨(some 34),(.q (.faddr 0 (.t 5))),none,0⟩,
⟨(some 35),(.q (.ld false 1 (.t 34))),none,0⟩,
⟨(some 36),(.q (.bin .eql (.p .int) (.t 35) (.c (.int .i64 (.ofNat 2))))),none,0⟩])
(.cond (.t 36) (.reg [⟨(some 37),(.q (.mv (.t 3))),none,0⟩,
⟨(some 38),(.q (.faddr 2 (.t 5))),none,0⟩,
⟨(some 39),(.q (.ld false 1 (.t 38))),none,0⟩,
⟨(some 40),(.q (.mv (.t 4))),none,0⟩,
⟨(some 41),(.q (.bin .add (.p .int) (.t 40) (.c (.int .i64 (.ofNat 1))))),none,0⟩,
⟨(some 42),(.q (.iaddr (.slice 1) (.t 37) (.t 39))),none,0⟩,
⟨none,(.x (.st 1 (.t 42) (.t 41))),none,0⟩]) .skip))))
(.reg [⟨(some 24),(.q (.mv (.t 4))),none,0⟩,
⟨(some 25),(.q (.bin .sub (.p .int) (.t 24) (.c (.int .i64 (.ofNat 1))))),none,0⟩,
⟨(some 4),(.q (.mv (.t 25))),none,0⟩]))))))
(.seq (.seq (.reg [⟨(some 43),(.q (.mv (.t 0))),none,0⟩,
⟨(some 44),(.q (.nilchk (.t 43))),none,0⟩,
⟨(some 45),(.q (.faddr 0 (.t 44))),none,0⟩,
⟨(some 46),(.q (.faddr 1 (.t 45))),none,0⟩,
⟨(some 47),(.q (.ld false 1 (.t 46))),none,0⟩,
⟨(some 48),(.q (.lenSl (.t 47))),none,0⟩,
⟨(some 49),(.q (.mv (.c (.int .i64 (.ofNat 0))))),none,0⟩])
(.block 2 (.loop (.seq (.reg [⟨(some 50),(.q (.bin .lss (.p .int) (.t 49) (.t 48))),none,0⟩])
(.seq (.cond (.t 50) .skip (.exit 2))
(.seq (.block 3 (.seq (.reg [⟨(some 51),(.q (.iaddr (.slice 6) (.t 47) (.t 49))),none,0⟩,
⟨(some 52),(.q (.ld true 6 (.t 51))),none,0⟩,
⟨(some 7),(.a (.alloc 75 [(.int .i64 (.ofNat 0)),(.int .i64 (.ofNat 0)),(.int .i64 (.ofNat 0)),.nilsl,.nilsl,.nilsl])),none,0⟩,
⟨none,(.x (.st 6 (.t 7) (.t 52))),none,0⟩])
(.seq (.drw [⟨(some 53),(.q (.faddr 0 (.t 7))),none,0⟩,
⟨(some 54),(.q (.ld false 1 (.t 53))),none,1⟩,
⟨(some 55),(.q (.bin .eql (.p .int) (.t 54) (.c (.int .i64 (.ofNat 2))))),none,3⟩,
⟨(some 56),(.q (.mv (.t 55))),none,7⟩,
⟨(some 57),(.q (.mv (.t 0))),(some (56,true)),15⟩,
⟨(some 58),(.q (.nilchk (.t 57))),(some (56,true)),31⟩,
⟨(some 59),(.q (.faddr 0 (.t 58))),(some (56,true)),63⟩,
⟨(some 60),(.q (.faddr 2 (.t 59))),(some (56,true)),127⟩,
⟨(some 61),(.q (.ld false 1 (.t 60))),(some (56,true)),255⟩,
⟨(some 62),(.q (.faddr 2 (.t 7))),(some (56,true)),15⟩,
⟨(some 63),(.q (.ld false 1 (.t 62))),(some (56,true)),527⟩,
⟨(some 64),(.q (.iaddr (.slice 2) (.t 61) (.t 63))),(some (56,true)),2047⟩,
⟨(some 65),(.q (.ld true 2 (.t 64))),(some (56,true)),4095⟩,
⟨(some 66),(.q (.faddr 1 (.t 7))),(some (56,true)),15⟩,
⟨(some 67),(.q (.ld false 1 (.t 66))),(some (56,true)),8207⟩,
⟨(some 68),(.q (.faddr 3 (.t 7))),(some (56,true)),15⟩,
⟨(some 69),(.q (.ld false 1 (.t 68))),(some (56,true)),32783⟩,
⟨(some 70),(.q (.lenSl (.t 69))),(some (56,true)),98319⟩,
⟨(some 71),(.q (.build [(.int .i64 (.ofNat 0)),(.int .i64 (.ofNat 0))] [(0,1,(.t 67)),(1,1,(.t 70))])),(some (56,true)),253967⟩,
⟨(some 72),(.q (.bin .neq (.struct [(0,.int),(1,.int)]) (.t 65) (.t 71))),(some (56,true)),524287⟩,
⟨(some 73),(.q (.pick (.t 56) (.t 72) (.c (.bool false)))),none,1048575⟩])
(.cond (.t 73) (.seq (.reg [⟨(some 2),(.q (.mv (.c (.int .i64 (.ofNat 10))))),none,0⟩])
.ret) .skip))))
(.reg [⟨(some 74),(.q (.bin .add (.p .int) (.t 49) (.c (.int .i64 (.ofNat 1))))),none,0⟩,
⟨(some 49),(.q (.mv (.t 74))),none,0⟩])))))))
(.seq (.seq (.reg [⟨(some 75),(.q (.mv (.t 3))),none,0⟩,
⟨(some 76),(.x (.call (.c (.fn 195 [] [])) [(.t 75),(.c (.int .i64 (.ofNat 0)))])),none,0⟩])
(.cond (.t 76) (.seq (.reg [⟨(some 2),(.q (.mv (.c (.int .i64 (.ofNat 18))))),none,0⟩])
.ret) .skip))
(.seq (.seq (.reg [⟨(some 77),(.q (.mv (.t 3))),none,0⟩,
⟨(some 78),(.x (.call (.c (.fn 196 [] [])) [(.t 77)])),none,0⟩,
⟨(some 79),(.q (.un .not (.t 78))),none,0⟩])
(.cond (.t 79) (.seq (.reg [⟨(some 2),(.q (.mv (.c (.int .i64 (.ofNat 9))))),none,0⟩])
.ret) .skip))
(.seq (.reg [⟨(some 2),(.q (.mv (.c (.int .i64 (.ofNat 0))))),none,0⟩])
.ret)))))))⟩
theorem row153 : Row Tryz.prog (153, a153) := ⟨Tryz.f153, Tryz.func153, by kernel_rfl⟩
noncomputable def a167 : AFn :=
⟨29,[(.t 2)],(.seq (.reg [⟨(some 2),(.q (.mv (.c (.int .i64 (.ofNat 0))))),none,0⟩])
(.seq (.seq (.reg [⟨(some 5),(.q (.mv (.t 0))),none,0⟩,
⟨(some 6),(.q (.lenSl (.t 5))),none,0⟩,
⟨(some 7),(.q (.bin .gtr (.p .int) (.t 6) (.c (.int .i64 (.ofNat 1024))))),none,0⟩])
(.cond (.t 7) (.seq (.reg [⟨(some 2),(.q (.mv (.c (.int .i64 (.ofNat 4))))),none,0⟩])
.ret) .skip))
(.seq (.seq (.reg [⟨(some 8),(.q (.mv (.t 0))),none,0⟩,
⟨(some 9),(.q (.lenSl (.t 8))),none,0⟩,
⟨(some 10),(.q (.mv (.c (.int .i64 (.ofNat 0))))),none,0⟩])
(.block 0 (.loop (.seq (.reg [⟨(some 11),(.q (.bin .lss (.p .int) (.t 10) (.t 9))),none,0⟩])
(.seq (.cond (.t 11) .skip (.exit 0))
(.seq (.block 1 (.seq (.reg [⟨(some 12),(.q (.iaddr (.slice 1) (.t 8) (.t 10))),none,0⟩,
⟨(some 13),(.q (.ld false 1 (.t 12))),none,0⟩,
⟨(some 4),(.q (.mv (.t 13))),none,0⟩])
(.seq (.reg [⟨(some 14),(.q (.mv (.t 4))),none,0⟩,
⟨(some 15),(.q (.bin .geq (.p .int) (.t 14) (.c (.int .u32 (.ofNat 1000000000))))),none,0⟩])
(.cond (.t 15) (.seq (.reg [⟨(some 2),(.q (.mv (.c (.int .i64 (.ofNat 3))))),none,0⟩])
.ret) .skip))))
(.reg [⟨(some 16),(.q (.bin .add (.p .int) (.t 10) (.c (.int .i64 (.ofNat 1))))),none,0⟩,
⟨(some 10),(.q (.mv (.t 16))),none,0⟩])))))))
(.seq (.seq (.reg [⟨(some 17),(.q (.mv (.t 0))),none,0⟩,
⟨(some 18),(.q (.lenSl (.t 17))),none,0⟩,
⟨(some 19),(.q (.bin .gtr (.p .int) (.t 18) (.c (.int .i64 (.ofNat 0))))),none,0⟩,
⟨(some 20),(.q (.mv (.t 19))),none,0⟩,
⟨(some 21),(.q (.mv (.t 0))),(some (20,true)),0⟩,
⟨(some 22),(.q (.mv (.t 0))),(some (20,true)),0⟩,
⟨(some 23),(.q (.lenSl (.t 22))),(some (20,true)),0⟩,
⟨(some 24),(.q (.bin .sub (.p .int) (.t 23) (.c (.int .i64 (.ofNat 1))))),(some (20,true)),0⟩,
⟨(some 25),(.q (.iaddr (.slice 1) (.t 21) (.t 24))),(some (20,true)),0⟩,
⟨(some 26),(.q (.ld false 1 (.t 25))),(some (20,true)),0⟩,
⟨(some 27),(.q (.bin .eql (.p .int) (.t 26) (.c (.int .u32 (.ofNat 0))))),(some (20,true)),0⟩,
⟨(some 28),(.q (.pick (.t 20) (.t 27) (.c (.bool false)))),none,0⟩])
(.cond (.t 28) (.seq (.reg [⟨(some 2),(.q (.mv (.c (.int .i64 (.ofNat 3))))),none,0⟩])
.ret) .skip))
(.seq (.reg [⟨(some 2),(.q (.mv (.c (.int .i64 (.ofNat 0))))),none,0⟩])
.ret)))))⟩
theorem row167 : Row Tryz.prog (167, a167) := ⟨Tryz.f167, Tryz.func167, by kernel_rfl⟩
noncomputable def a168 : AFn :=
⟨37,[(.t 4)],(.seq (.reg [⟨(some 4),(.q (.mv (.c (.int .u64 (.ofNat 0))))),none,0⟩])
(.seq (.seq (.reg [⟨(some 6),(.q (.mv (.t 0))),none,0⟩,
⟨(some 7),(.q (.bin .eql (.p .int) (.t 6) (.c (.int .u64 (.ofNat 0))))),none,0⟩])
(.cond (.t 7) (.seq (.reg [⟨(some 8),(.q (.mv (.t 1))),none,0⟩,
⟨(some 4),(.q (.mv (.t 8))),none,0⟩])
.ret) .skip))
(.seq (.seq (.reg [⟨(some 9),(.q (.mv (.t 1))),none,0⟩,
⟨(some 10),(.q (.bin .eql (.p .int) (.t 9) (.c (.int .u64 (.ofNat 0))))),none,0⟩])
(.cond (.t 10) (.seq (.reg [⟨(some 11),(.q (.mv (.t 0))),none,0⟩,
⟨(some 4),(.q (.mv (.t 11))),none,0⟩])
.ret) .skip))
(.seq (.reg [⟨(some 12),(.q (.mv (.t 0))),none,0⟩,
⟨(some 13),(.q (.mv (.t 1))),none,0⟩,
⟨(some 14),(.q (.bin .or (.p .int) (.t 12) (.t 13))),none,0⟩,
⟨(some 15),(.x (.call (.c (.fn 221 [] [])) [(.t 14)])),none,0⟩,
⟨(some 5),(.q (.mv (.t 15))),none,0⟩])
(.seq (.reg [⟨(some 16),(.q (.mv (.t 0))),none,0⟩,
⟨(some 17),(.q (.mv (.t 0))),none,0⟩,
⟨(some 18),(.x (.call (.c (.fn 221 [] [])) [(.t 17)])),none,0⟩,
⟨(some 19),(.q (.bin .shr (.p .int) (.t 16) (.t 18))),none,0⟩,
⟨(some 0),(.q (.mv (.t 19))),none,0⟩])
(.seq (.block 0 (.loop (.seq (.seq (.reg [⟨(some 20),(.q (.mv (.t 1))),none,0⟩,
⟨(some 21),(.q (.bin .neq (.p .int) (.t 20) (.c (.int .u64 (.ofNat 0))))),none,0⟩])
(.cond (.t 21) .skip (.exit 0)))
(.block 1 (.seq (.reg [⟨(some 22),(.q (.mv (.t 1))),none,0⟩,
⟨(some 23),(.q (.mv (.t 1))),none,0⟩,
⟨(some 24),(.x (.call (.c (.fn 221 [] [])) [(.t 23)])),none,0⟩,
⟨(some 25),(.q (.bin .shr (.p .int) (.t 22) (.t 24))),none,0⟩,
⟨(some 1),(.q (.mv (.t 25))),none,0⟩])
(.seq (.seq (.reg [⟨(some 26),(.q (.mv (.t 0))),none,0⟩,
⟨(some 27),(.q (.mv (.t 1))),none,0⟩,
⟨(some 28),(.q (.bin .gtr (.p .int) (.t 26) (.t 27))),none,0⟩])
(.cond (.t 28) (.reg [⟨(some 29),(.q (.mv (.t 1))),none,0⟩,
⟨(some 30),(.q (.mv (.t 0))),none,0⟩,
⟨(some 0),(.q (.mv (.t 29))),none,0⟩,
⟨(some 1),(.q (.mv (.t 30))),none,0⟩]) .skip))
(.reg [⟨(some 31),(.q (.mv (.t 1))),none,0⟩,
⟨(some 32),(.q (.mv (.t 0))),none,0⟩,
⟨(some 33),(.q (.bin .sub (.p .int) (.t 31) (.t 32))),none,0⟩,
⟨(some 1),(.q (.mv (.t 33))),none,0⟩])))))))
(.seq (.reg [⟨(some 34),(.q (.mv (.t 0))),none,0⟩,
⟨(some 35),(.q (.mv (.t 5))),none,0⟩,
⟨(some 36),(.q (.bin .shl (.p .int) (.t 34) (.t 35))),none,0⟩,
⟨(some 4),(.q (.mv (.t 36))),none,0⟩])
.ret)))))))⟩
theorem row168 : Row Tryz.prog (168, a168) := ⟨Tryz.f168, Tryz.func168, by kernel_rfl⟩
noncomputable def a169 : AFn :=
⟨21,[(.t 2)],(.seq (.reg [⟨(some 2),(.q (.mv (.c (.int .u64 (.ofNat 0))))),none,0⟩])
(.seq (.reg [⟨(some 3),(.q (.mv (.c (.int .u64 (.ofNat 0))))),none,0⟩])
(.seq (.seq (.reg [⟨(some 5),(.q (.mv (.t 0))),none,0⟩,
⟨(some 6),(.q (.lenSl (.t 5))),none,0⟩,
⟨(some 7),(.q (.bin .sub (.p .int) (.t 6) (.c (.int .i64 (.ofNat 1))))),none,0⟩,
⟨(some 4),(.q (.mv (.t 7))),none,0⟩])
(.block 0 (.loop (.seq (.seq (.reg [⟨(some 8),(.q (.mv (.t 4))),none,0⟩,
⟨(some 9),(.q (.bin .geq (.p .int) (.t 8) (.c (.int .i64 (.ofNat 0))))),none,0⟩])
(.cond (.t 9) .skip (.exit 0)))
(.seq (.block 1 (.reg [⟨(some 12),(.q (.mv (.t 3))),none,0⟩,
⟨(some 13),(.q (.bin .mul (.p .int) (.t 12) (.c (.int .u64 (.ofNat 1000000000))))),none,0⟩,
⟨(some 14),(.q (.mv (.t 0))),none,0⟩,
⟨(some 15),(.q (.mv (.t 4))),none,0⟩,
⟨(some 16),(.q (.iaddr (.slice 1) (.t 14) (.t 15))),none,0⟩,
⟨(some 17),(.q (.ld false 1 (.t 16))),none,0⟩,
⟨(some 18),(.q (.conv (.int .u64) (.t 17))),none,0⟩,
⟨(some 19),(.q (.bin .add (.p .int) (.t 13) (.t 18))),none,0⟩,
⟨(some 3),(.q (.mv (.t 19))),none,0⟩]))
(.reg [⟨(some 10),(.q (.mv (.t 4))),none,0⟩,
⟨(some 11),(.q (.bin .sub (.p .int) (.t 10) (.c (.int .i64 (.ofNat 1))))),none,0⟩,
⟨(some 4),(.q (.mv (.t 11))),none,0⟩]))))))
(.seq (.reg [⟨(some 20),(.q (.mv (.t 3))),none,0⟩,
⟨(some 2),(.q (.mv (.t 20))),none,0⟩])
.ret))))⟩
theorem row169 : Row Tryz.prog (169, a169) := ⟨Tryz.f169, Tryz.func169, by kernel_rfl⟩
noncomputable def a170 : AFn :=
⟨12,[(.t 2)],(.seq (.reg [⟨(some 2),(.q (.mv (.c (.bool false)))),none,0⟩])
(.seq (.reg [⟨(some 3),(.q (.mv (.t 0))),none,0⟩,
⟨(some 4),(.q (.lenSl (.t 3))),none,0⟩,
⟨(some 5),(.q (.bin .eql (.p .int) (.t 4) (.c (.int .i64 (.ofNat 1))))),none,0⟩,
⟨(some 6),(.q (.mv (.t 5))),none,0⟩,
⟨(some 7),(.q (.mv (.t 0))),(some (6,true)),0⟩,
⟨(some 8),(.q (.iaddr (.slice 1) (.t 7) (.c (.int .i64 (.ofNat 0))))),(some (6,true)),0⟩,
⟨(some 9),(.q (.ld false 1 (.t 8))),(some (6,true)),0⟩,
⟨(some 10),(.q (.bin .eql (.p .int) (.t 9) (.c (.int .u32 (.ofNat 1))))),(some (6,true)),0⟩,
⟨(some 11),(.q (.pick (.t 6) (.t 10) (.c (.bool false)))),none,0⟩,
⟨(some 2),(.q (.mv (.t 11))),none,0⟩])
.ret))⟩
theorem row170 : Row Tryz.prog (170, a170) := ⟨Tryz.f170, Tryz.func170, by kernel_rfl⟩
noncomputable def a171 : AFn :=
⟨91,[(.t 4)],(.seq (.reg [⟨(some 4),(.q (.mv (.c .nilsl))),none,0⟩])
(.seq (.seq (.reg [⟨(some 13),(.q (.mv (.t 0))),none,0⟩,
⟨(some 14),(.q (.lenSl (.t 13))),none,0⟩,
⟨(some 15),(.q (.bin .leq (.p .int) (.t 14) (.c (.int .i64 (.ofNat 2))))),none,0⟩,
⟨(some 16),(.q (.mv (.t 15))),none,0⟩,
⟨(some 17),(.q (.mv (.t 1))),(some (16,true)),0⟩,
⟨(some 18),(.q (.lenSl (.t 17))),(some (16,true)),0⟩,
⟨(some 19),(.q (.bin .leq (.p .int) (.t 18) (.c (.int .i64 (.ofNat 2))))),(some (16,true)),0⟩,
⟨(some 20),(.q (.pick (.t 16) (.t 19) (.c (.bool false)))),none,0⟩])
(.cond (.t 20) (.seq (.reg [⟨(some 21),(.q (.mv (.t 0))),none,0⟩,
⟨(some 22),(.x (.call (.c (.fn 169 [] [])) [(.t 21)])),none,0⟩,
⟨(some 23),(.q (.mv (.t 1))),none,0⟩,
⟨(some 24),(.x (.call (.c (.fn 169 [] [])) [(.t 23)])),none,0⟩,
⟨(some 25),(.x (.call (.c (.fn 168 [] [])) [(.t 22),(.t 24)])),none,0⟩,
⟨(some 26),(.x (.call (.c (.fn 131 [] [])) [(.t 25)])),none,0⟩,
⟨(some 4),(.q (.mv (.t 26))),none,0⟩])
.ret) .skip))
(.seq (.seq (.reg [⟨(some 27),(.q (.mv (.t 0))),none,0⟩,
⟨(some 28),(.x (.call (.c (.fn 170 [] [])) [(.t 27)])),none,0⟩,
⟨(some 29),(.q (.mv (.t 28))),none,0⟩,
⟨(some 30),(.q (.mv (.t 1))),(some (29,false)),0⟩,
⟨(some 31),(.x (.call (.c (.fn 170 [] [])) [(.t 30)])),(some (29,false)),0⟩,
⟨(some 32),(.q (.pick (.t 29) (.c (.bool true)) (.t 31))),none,0⟩])
(.cond (.t 32) (.seq (.reg [⟨(some 33),(.x (.call (.c (.fn 183 [] [])) [])),none,0⟩,
⟨(some 4),(.q (.mv (.t 33))),none,0⟩])
.ret) .skip))
(.seq (.seq (.reg [⟨(some 34),(.q (.mv (.t 0))),none,0⟩,
⟨(some 35),(.q (.mv (.t 1))),none,0⟩,
⟨(some 36),(.x (.call (.c (.fn 222 [] [])) [(.t 34),(.t 35)])),none,0⟩,
⟨(some 37),(.q (.bin .lss (.p .int) (.t 36) (.c (.int .i64 (.ofNat 0))))),none,0⟩])
(.cond (.t 37) (.reg [⟨(some 38),(.q (.mv (.t 1))),none,0⟩,
⟨(some 39),(.q (.mv (.t 0))),none,0⟩,
⟨(some 0),(.q (.mv (.t 38))),none,0⟩,
⟨(some 1),(.q (.mv (.t 39))),none,0⟩]) .skip))
(.seq (.block 0 (.loop (.seq (.seq (.reg [⟨(some 40),(.q (.mv (.t 1))),none,0⟩,
⟨(some 41),(.q (.lenSl (.t 40))),none,0⟩,
⟨(some 42),(.q (.bin .gtr (.p .int) (.t 41) (.c (.int .i64 (.ofNat 2))))),none,0⟩])
(.cond (.t 42) .skip (.exit 0)))
(.block 1 (.seq (.reg [⟨(some 44),(.q (.mv (.t 0))),none,0⟩,
⟨(some 45),(.q (.mv (.t 1))),none,0⟩,
⟨(some 46),(.x (.call (.c (.fn 224 [] [])) [(.t 44),(.t 45)])),none,0⟩,
⟨(some 47),(.q (.extract (.t 46) 0)),none,0⟩,
⟨(some 48),(.q (.extract (.t 46) 1)),none,0⟩,
⟨(some 49),(.x (.call (.c (.fn 223 [] [])) [(.t 47),(.t 48)])),none,0⟩,
⟨(some 43),(.q (.mv (.t 49))),none,0⟩,
⟨(some 50),(.q (.extract (.t 43) 0)),none,0⟩,
⟨(some 51),(.q (.extract (.t 43) 1)),none,0⟩,
⟨(some 52),(.q (.extract (.t 43) 2)),none,0⟩,
⟨(some 53),(.q (.extract (.t 43) 3)),none,0⟩,
⟨(some 5),(.q (.mv (.t 50))),none,0⟩,
⟨(some 6),(.q (.mv (.t 51))),none,0⟩,
⟨(some 7),(.q (.mv (.t 52))),none,0⟩,
⟨(some 8),(.q (.mv (.t 53))),none,0⟩])
(.seq (.seq (.reg [⟨(some 54),(.q (.mv (.t 6))),none,0⟩,
⟨(some 55),(.q (.bin .eql (.p .int) (.t 54) (.c (.int .i64 (.ofNat 0))))),none,0⟩])
(.cond (.t 55) (.seq (.reg [⟨(some 57),(.q (.mv (.t 0))),none,0⟩,
⟨(some 58),(.q (.mv (.t 1))),none,0⟩,
⟨(some 59),(.x (.call (.c (.fn 225 [] [])) [(.t 57),(.t 58)])),none,0⟩,
⟨(some 56),(.q (.mv (.t 59))),none,0⟩,
⟨(some 60),(.q (.extract (.t 56) 0)),none,0⟩,
⟨(some 61),(.q (.extract (.t 56) 1)),none,0⟩,
⟨(some 9),(.q (.mv (.t 60))),none,0⟩,
⟨(some 10),(.q (.mv (.t 61))),none,0⟩])
(.seq (.reg [⟨(some 62),(.q (.mv (.t 1))),none,0⟩,
⟨(some 63),(.q (.mv (.t 10))),none,0⟩,
⟨(some 0),(.q (.mv (.t 62))),none,0⟩,
⟨(some 1),(.q (.mv (.t 63))),none,0⟩])
(.exit 1))) .skip))
(.reg [⟨(some 64),(.q (.mv (.t 0))),none,0⟩,
⟨(some 65),(.q (.mv (.t 1))),none,0⟩,
⟨(some 66),(.q (.mv (.t 5))),none,0⟩,
⟨(some 67),(.q (.mv (.t 6))),none,0⟩,
⟨(some 68),(.x (.call (.c (.fn 226 [] [])) [(.t 64),(.t 65),(.t 66),(.t 67)])),none,0⟩,
⟨(some 69),(.q (.mv (.t 0))),none,0⟩,
⟨(some 70),(.q (.mv (.t 1))),none,0⟩,
⟨(some 71),(.q (.mv (.t 7))),none,0⟩,
⟨(some 72),(.q (.mv (.t 8))),none,0⟩,
⟨(some 73),(.x (.call (.c (.fn 226 [] [])) [(.t 69),(.t 70),(.t 71),(.t 72)])),none,0⟩,
⟨(some 0),(.q (.mv (.t 68))),none,0⟩,
⟨(some 1),(.q (.mv (.t 73))),none,0⟩])))))))
(.seq (.seq (.reg [⟨(some 74),(.q (.mv (.t 1))),none,0⟩,
⟨(some 75),(.q (.lenSl (.t 74))),none,0⟩,
⟨(some 76),(.q (.bin .eql (.p .int) (.t 75) (.c (.int .i64 (.ofNat 0))))),none,0⟩])
(.cond (.t 76) (.seq (.reg [⟨(some 77),(.q (.mv (.t 0))),none,0⟩,
⟨(some 78),(.x (.call (.c (.fn 176 [] [])) [(.t 77)])),none,0⟩,
⟨(some 4),(.q (.mv (.t 78))),none,0⟩])
.ret) .skip))
(.seq (.reg [⟨(some 80),(.q (.mv (.t 0))),none,0⟩,
⟨(some 81),(.q (.mv (.t 1))),none,0⟩,
⟨(some 82),(.x (.call (.c (.fn 225 [] [])) [(.t 80),(.t 81)])),none,0⟩,
⟨(some 79),(.q (.mv (.t 82))),none,0⟩,
⟨(some 83),(.q (.extract (.t 79) 0)),none,0⟩,
⟨(some 84),(.q (.extract (.t 79) 1)),none,0⟩,
⟨(some 11),(.q (.mv (.t 83))),none,0⟩,
⟨(some 12),(.q (.mv (.t 84))),none,0⟩])
(.seq (.reg [⟨(some 85),(.q (.mv (.t 1))),none,0⟩,
⟨(some 86),(.x (.call (.c (.fn 169 [] [])) [(.t 85)])),none,0⟩,
⟨(some 87),(.q (.mv (.t 12))),none,0⟩,
⟨(some 88),(.x (.call (.c (.fn 169 [] [])) [(.t 87)])),none,0⟩,
⟨(some 89),(.x (.call (.c (.fn 168 [] [])) [(.t 86),(.t 88)])),none,0⟩,
⟨(some 90),(.x (.call (.c (.fn 131 [] [])) [(.t 89)])),none,0⟩,
⟨(some 4),(.q (.mv (.t 90))),none,0⟩])
.ret))))))))⟩
theorem row171 : Row Tryz.prog (171, a171) := ⟨Tryz.f171, Tryz.func171, by kernel_rfl⟩
noncomputable def a176 : AFn :=
⟨5,[(.t 2)],(.seq (.reg [⟨(some 2),(.q (.mv (.c .nilsl))),none,0⟩])
(.seq (.reg [⟨(some 3),(.q (.mv (.t 0))),none,0⟩,
⟨(some 4),(.x (.app 149 1 4 (.c .nilsl) (.t 3))),none,0⟩,
⟨(some 2),(.q (.mv (.t 4))),none,0⟩])
.ret))⟩
theorem row176 : Row Tryz.prog (176, a176) := ⟨Tryz.f176, Tryz.func176, by kernel_rfl⟩
noncomputable def a183 : AFn :=
⟨2,[(.t 0)],(.seq (.reg [⟨(some 0),(.q (.mv (.c .nilsl))),none,0⟩])
(.seq (.reg [⟨(some 1),(.a (.bslice 149 1 1 [(.int .u32 (.ofNat 0))] [(0,(.c (.int .u32 (.ofNat 1))))])),none,0⟩,
⟨(some 0),(.q (.mv (.t 1))),none,0⟩])
.ret))⟩
theorem row183 : Row Tryz.prog (183, a183) := ⟨Tryz.f183, Tryz.func183, by kernel_rfl⟩
noncomputable def a184 : AFn :=
⟨4,[(.t 2)],(.seq (.reg [⟨(some 1),(.a (.box 50 (.t 0))),none,0⟩,
⟨(some 2),(.q (.mv (.c .nilfn))),none,0⟩])
(.seq (.reg [⟨(some 3),(.q (.mkFunc 233 [] [(.t 1)])),none,0⟩,
⟨(some 2),(.q (.mv (.t 3))),none,0⟩])
.ret))⟩
theorem row184 : Row Tryz.prog (184, a184) := ⟨Tryz.f184, Tryz.func184, by kernel_rfl⟩
noncomputable def a185 : AFn :=
⟨59,[],(.seq (.reg [⟨(some 11),(.q (.faddr 0 (.t 1))),none,0⟩,
⟨(some 12),(.q (.faddr 1 (.t 11))),none,0⟩,
⟨(some 13),(.q (.ld false 1 (.t 12))),none,0⟩,
⟨(some 14),(.q (.ld false 1 (.t 2))),none,0⟩,
⟨(some 15),(.q (.iaddr (.slice 6) (.t 13) (.t 14))),none,0⟩,
⟨(some 16),(.q (.ld true 6 (.t 15))),none,0⟩,
⟨(some 4),(.a (.alloc 75 [(.int .i64 (.ofNat 0)),(.int .i64 (.ofNat 0)),(.int .i64 (.ofNat 0)),.nilsl,.nilsl,.nilsl])),none,0⟩,
⟨none,(.x (.st 6 (.t 4) (.t 16))),none,0⟩])
(.seq (.reg [⟨(some 17),(.q (.faddr 3 (.t 1))),none,0⟩,
⟨(some 18),(.q (.ld false 1 (.t 17))),none,0⟩,
⟨(some 19),(.q (.ld true 6 (.t 4))),none,0⟩,
⟨(some 20),(.x (.call (.t 18) [(.t 19)])),none,0⟩,
⟨(some 5),(.q (.mv (.t 20))),none,0⟩])
(.seq (.reg [⟨(some 6),(.q (.mv (.c (.int .i64 (.ofNat 0))))),none,0⟩])
(.seq (.seq (.reg [⟨(some 21),(.q (.mv (.t 5))),none,0⟩,
⟨(some 22),(.q (.lenSl (.t 21))),none,0⟩,
⟨(some 23),(.q (.mv (.c (.int .i64 (.ofNat 0))))),none,0⟩])
(.block 0 (.loop (.seq (.reg [⟨(some 24),(.q (.bin .lss (.p .int) (.t 23) (.t 22))),none,0⟩])
(.seq (.cond (.t 24) .skip (.exit 0))
(.seq (.block 1 (.seq (.reg [⟨(some 25),(.q (.iaddr (.slice 1) (.t 21) (.t 23))),none,0⟩,
⟨(some 26),(.q (.ld false 1 (.t 25))),none,0⟩,
⟨(some 8),(.q (.mv (.t 26))),none,0⟩])
(.reg [⟨(some 27),(.q (.mv (.t 6))),none,0⟩,
⟨(some 28),(.q (.mv (.t 8))),none,0⟩,
⟨(some 29),(.q (.bin .add (.p .int) (.t 27) (.t 28))),none,0⟩,
⟨(some 6),(.q (.mv (.t 29))),none,0⟩])))
(.reg [⟨(some 30),(.q (.bin .add (.p .int) (.t 23) (.c (.int .i64 (.ofNat 1))))),none,0⟩,
⟨(some 23),(.q (.mv (.t 30))),none,0⟩])))))))
(.seq (.reg [⟨(some 31),(.q (.faddr 3 (.t 4))),none,0⟩,
⟨(some 32),(.q (.ld false 1 (.t 31))),none,0⟩,
⟨(some 33),(.q (.lenSl (.t 32))),none,0⟩,
⟨(some 34),(.q (.mv (.c (.int .i64 (.ofNat 0))))),none,0⟩])
(.block 2 (.loop (.seq (.reg [⟨(some 35),(.q (.bin .lss (.p .int) (.t 34) (.t 33))),none,0⟩])
(.seq (.cond (.t 35) .skip (.exit 2))
(.seq (.block 3 (.seq (.reg [⟨(some 36),(.q (.mv (.t 34))),none,0⟩,
⟨(some 37),(.q (.iaddr (.slice 1) (.t 32) (.t 34))),none,0⟩,
⟨(some 38),(.q (.ld false 1 (.t 37))),none,0⟩,
⟨(some 9),(.q (.mv (.t 36))),none,0⟩,
⟨(some 10),(.q (.mv (.t 38))),none,0⟩])
(.seq (.reg [⟨(some 39),(.q (.mv (.t 5))),none,0⟩,
⟨(some 40),(.q (.mv (.t 9))),none,0⟩,
⟨(some 41),(.q (.iaddr (.slice 1) (.t 39) (.t 40))),none,0⟩,
⟨(some 42),(.q (.ld false 1 (.t 41))),none,0⟩,
⟨(some 43),(.q (.bin .gtr (.p .int) (.t 42) (.c (.int .i64 (.ofNat 0))))),none,0⟩,
⟨(some 44),(.q (.mv (.t 43))),none,0⟩,
⟨(some 45),(.q (.mv (.t 0))),(some (44,true)),0⟩,
⟨(some 46),(.q (.mv (.t 9))),(some (44,true)),0⟩,
⟨(some 47),(.q (.mv (.t 10))),(some (44,true)),0⟩,
⟨(some 48),(.q (.mv (.t 5))),(some (44,true)),0⟩,
⟨(some 49),(.q (.mv (.t 9))),(some (44,true)),0⟩,
⟨(some 50),(.q (.iaddr (.slice 1) (.t 48) (.t 49))),(some (44,true)),0⟩,
⟨(some 51),(.q (.ld false 1 (.t 50))),(some (44,true)),0⟩,
⟨(some 52),(.q (.mv (.t 6))),(some (44,true)),0⟩,
⟨(some 53),(.x (.call (.c (.fn 108 [] [])) [(.t 51),(.t 52)])),(some (44,true)),0⟩,
⟨(some 54),(.q (.build [(.int .i64 (.ofNat 0)),(.int .i64 (.ofNat 0)),(.bool false),.nilsl,.nilsl] [(0,1,(.t 46)),(1,1,(.t 47)),(2,3,(.t 53))])),(some (44,true)),0⟩,
⟨(some 55),(.x (.call (.t 45) [(.t 54)])),(some (44,true)),0⟩,
⟨(some 56),(.q (.un .not (.t 55))),(some (44,true)),0⟩,
⟨(some 57),(.q (.pick (.t 44) (.t 56) (.c (.bool false)))),none,0⟩])
(.cond (.t 57) .ret .skip))))
(.reg [⟨(some 58),(.q (.bin .add (.p .int) (.t 34) (.c (.int .i64 (.ofNat 1))))),none,0⟩,
⟨(some 34),(.q (.mv (.t 58))),none,0⟩])))))))))))⟩
theorem row185 : Row Tryz.prog (185, a185) := ⟨Tryz.f185, Tryz.func185, by kernel_rfl⟩
noncomputable def a186 : AFn :=
⟨109,[(.cell 4 true 4)],(.seq (.reg [⟨(some 4),(.a (.alloc 245 [(.int .i64 (.ofNat 0)),(.int .i64 (.ofNat 0)),(.int .i64 (.ofNat 0)),(.int .i64 (.ofNat 0))])),none,0⟩])
(.seq (.reg [⟨(some 12),(.q (.mv (.t 0))),none,0⟩,
⟨(some 13),(.q (.lenSl (.t 12))),none,0⟩,
⟨(some 5),(.q (.mv (.t 13))),none,0⟩])
(.seq (.reg [⟨(some 14),(.q (.mv (.t 0))),none,0⟩,
⟨(some 15),(.q (.mv (.t 5))),none,0⟩,
⟨(some 16),(.q (.bin .sub (.p .int) (.t 15) (.c (.int .i64 (.ofNat 1))))),none,0⟩,
⟨(some 17),(.x (.call (.c (.fn 191 [] [])) [(.t 14),(.t 16)])),none,0⟩,
⟨(some 18),(.q (.bin .mul (.p .int) (.t 17) (.c (.int .u64 (.ofNat 1000000000))))),none,0⟩,
⟨(some 19),(.q (.mv (.t 0))),none,0⟩,
⟨(some 20),(.q (.mv (.t 5))),none,0⟩,
⟨(some 21),(.q (.bin .sub (.p .int) (.t 20) (.c (.int .i64 (.ofNat 2))))),none,0⟩,
⟨(some 22),(.x (.call (.c (.fn 191 [] [])) [(.t 19),(.t 21)])),none,0⟩,
⟨(some 23),(.q (.bin .add (.p .int) (.t 18) (.t 22))),none,0⟩,
⟨(some 24),(.q (.conv (.int .i64) (.t 23))),none,0⟩,
⟨(some 6),(.q (.mv (.t 24))),none,0⟩])
(.seq (.reg [⟨(some 25),(.q (.mv (.t 1))),none,0⟩,
⟨(some 26),(.q (.mv (.t 5))),none,0⟩,
⟨(some 27),(.q (.bin .sub (.p .int) (.t 26) (.c (.int .i64 (.ofNat 1))))),none,0⟩,
⟨(some 28),(.x (.call (.c (.fn 191 [] [])) [(.t 25),(.t 27)])),none,0⟩,
⟨(some 29),(.q (.bin .mul (.p .int) (.t 28) (.c (.int .u64 (.ofNat 1000000000))))),none,0⟩,
⟨(some 30),(.q (.mv (.t 1))),none,0⟩,
⟨(some 31),(.q (.mv (.t 5))),none,0⟩,
⟨(some 32),(.q (.bin .sub (.p .int) (.t 31) (.c (.int .i64 (.ofNat 2))))),none,0⟩,
⟨(some 33),(.x (.call (.c (.fn 191 [] [])) [(.t 30),(.t 32)])),none,0⟩,
⟨(some 34),(.q (.bin .add (.p .int) (.t 29) (.t 33))),none,0⟩,
⟨(some 35),(.q (.conv (.int .i64) (.t 34))),none,0⟩,
⟨(some 7),(.q (.mv (.t 35))),none,0⟩])
(.seq (.reg [⟨(some 36),(.q (.build [(.int .i64 (.ofNat 0)),(.int .i64 (.ofNat 0)),(.int .i64 (.ofNat 0)),(.int .i64 (.ofNat 0))] [(0,1,(.c (.int .i64 (.ofNat 1)))),(3,1,(.c (.int .i64 (.ofNat 1))))])),none,0⟩,
⟨(some 8),(.a (.alloc 245 [(.int .i64 (.ofNat 0)),(.int .i64 (.ofNat 0)),(.int .i64 (.ofNat 0)),(.int .i64 (.ofNat 0))])),none,0⟩,
⟨none,(.x (.st 4 (.t 8) (.t 36))),none,0⟩])
(.seq (.block 0 (.loop (.seq (.seq (.reg [⟨(some 37),(.q (.mv (.t 7))),none,0⟩,
⟨(some 38),(.q (.faddr 2 (.t 8))),none,0⟩,
⟨(some 39),(.q (.ld false 1 (.t 38))),none,0⟩,
⟨(some 40),(.q (.bin .add (.p .int) (.t 37) (.t 39))),none,0⟩,
⟨(some 41),(.q (.bin .neq (.p .int) (.t 40) (.c (.int .i64 (.ofNat 0))))),none,0⟩,
⟨(some 42),(.q (.mv (.t 41))),none,0⟩,
⟨(some 43),(.q (.mv (.t 7))),(some (42,true)),0⟩,
⟨(some 44),(.q (.faddr 3 (.t 8))),(some (42,true)),0⟩,
⟨(some 45),(.q (.ld false 1 (.t 44))),(some (42,true)),0⟩,
⟨(some 46),(.q (.bin .add (.p .int) (.t 43) (.t 45))),(some (42,true)),0⟩,
⟨(some 47),(.q (.bin .neq (.p .int) (.t 46) (.c (.int .i64 (.ofNat 0))))),(some (42,true)),0⟩,
⟨(some 48),(.q (.pick (.t 42) (.t 47) (.c (.bool false)))),none,0⟩])
(.cond (.t 48) .skip (.exit 0)))
(.block 1 (.seq (.reg [⟨(some 49),(.q (.mv (.t 6))),none,0⟩,
⟨(some 50),(.q (.faddr 0 (.t 8))),none,0⟩,
⟨(some 51),(.q (.ld false 1 (.t 50))),none,0⟩,
⟨(some 52),(.q (.bin .add (.p .int) (.t 49) (.t 51))),none,0⟩,
⟨(some 53),(.q (.mv (.t 7))),none,0⟩,
⟨(some 54),(.q (.faddr 2 (.t 8))),none,0⟩,
⟨(some 55),(.q (.ld false 1 (.t 54))),none,0⟩,
⟨(some 56),(.q (.bin .add (.p .int) (.t 53) (.t 55))),none,0⟩,
⟨(some 57),(.q (.bin .quo (.p .int) (.t 52) (.t 56))),none,0⟩,
⟨(some 9),(.q (.mv (.t 57))),none,0⟩])
(.seq (.seq (.reg [⟨(some 58),(.q (.mv (.t 9))),none,0⟩,
⟨(some 59),(.q (.mv (.t 6))),none,0⟩,
⟨(some 60),(.q (.faddr 1 (.t 8))),none,0⟩,
⟨(some 61),(.q (.ld false 1 (.t 60))),none,0⟩,
⟨(some 62),(.q (.bin .add (.p .int) (.t 59) (.t 61))),none,0⟩,
⟨(some 63),(.q (.mv (.t 7))),none,0⟩,
⟨(some 64),(.q (.faddr 3 (.t 8))),none,0⟩,
⟨(some 65),(.q (.ld false 1 (.t 64))),none,0⟩,
⟨(some 66),(.q (.bin .add (.p .int) (.t 63) (.t 65))),none,0⟩,
⟨(some 67),(.q (.bin .quo (.p .int) (.t 62) (.t 66))),none,0⟩,
⟨(some 68),(.q (.bin .neq (.p .int) (.t 58) (.t 67))),none,0⟩,
⟨(some 69),(.q (.mv (.t 68))),none,0⟩,
⟨(some 70),(.q (.mv (.t 9))),(some (69,false)),0⟩,
⟨(some 71),(.q (.bin .geq (.p .int) (.t 70) (.c (.int .i64 (.ofNat 2147483648))))),(some (69,false)),0⟩,
⟨(some 72),(.q (.pick (.t 69) (.c (.bool true)) (.t 71))),none,0⟩])
(.cond (.t 72) (.exit 0) .skip))
(.seq (.drw [⟨(some 73),(.q (.faddr 0 (.t 8))),none,0⟩,
⟨(some 74),(.q (.ld false 1 (.t 73))),none,1⟩,
⟨(some 75),(.q (.mv (.t 9))),none,0⟩,
⟨(some 76),(.q (.faddr 2 (.t 8))),none,0⟩,
⟨(some 77),(.q (.ld false 1 (.t 76))),none,8⟩,
⟨(some 78),(.q (.bin .mul (.p .int) (.t 75) (.t 77))),none,28⟩,
⟨(some 79),(.q (.bin .sub (.p .int) (.t 74) (.t 78))),none,63⟩,
⟨(some 80),(.q (.faddr 1 (.t 8))),none,0⟩,
⟨(some 81),(.q (.ld false 1 (.t 80))),none,128⟩,
⟨(some 82),(.q (.mv (.t 9))),none,0⟩,
⟨(some 83),(.q (.faddr 3 (.t 8))),none,0⟩,
⟨(some 84),(.q (.ld false 1 (.t 83))),none,1024⟩,
⟨(some 85),(.q (.bin .mul (.p .int) (.t 82) (.t 84))),none,3584⟩,
⟨(some 86),(.q (.bin .sub (.p .int) (.t 81) (.t 85))),none,8064⟩,
⟨(some 10),(.q (.mv (.t 79))),none,127⟩,
⟨(some 11),(.q (.mv (.t 86))),none,32767⟩])
(.seq (.seq (.reg [⟨(some 87),(.q (.mv (.t 10))),none,0⟩,
⟨(some 88),(.x (.call (.c (.fn 234 [] [])) [(.t 87)])),none,0⟩,
⟨(some 89),(.q (.un .not (.t 88))),none,0⟩,
⟨(some 90),(.q (.mv (.t 89))),none,0⟩,
⟨(some 91),(.q (.mv (.t 11))),(some (90,false)),0⟩,
⟨(some 92),(.x (.call (.c (.fn 234 [] [])) [(.t 91)])),(some (90,false)),0⟩,
⟨(some 93),(.q (.un .not (.t 92))),(some (90,false)),0⟩,
⟨(some 94),(.q (.pick (.t 90) (.c (.bool true)) (.t 93))),none,0⟩])
(.cond (.t 94) (.exit 0) .skip))
(.seq (.reg [⟨(some 95),(.q (.faddr 2 (.t 8))),none,0⟩,
⟨(some 96),(.q (.ld false 1 (.t 95))),none,0⟩,
⟨(some 97),(.q (.faddr 3 (.t 8))),none,0⟩,
⟨(some 98),(.q (.ld false 1 (.t 97))),none,0⟩,
⟨(some 99),(.q (.mv (.t 10))),none,0⟩,
⟨(some 100),(.q (.mv (.t 11))),none,0⟩,
⟨(some 101),(.q (.build [(.int .i64 (.ofNat 0)),(.int .i64 (.ofNat 0)),(.int .i64 (.ofNat 0)),(.int .i64 (.ofNat 0))] [(0,1,(.t 96)),(1,1,(.t 98)),(2,1,(.t 99)),(3,1,(.t 100))])),none,0⟩,
⟨none,(.x (.st 4 (.t 8) (.t 101))),none,0⟩])
(.reg [⟨(some 102),(.q (.mv (.t 7))),none,0⟩,
⟨(some 103),(.q (.mv (.t 6))),none,0⟩,
⟨(some 104),(.q (.mv (.t 9))),none,0⟩,
⟨(some 105),(.q (.mv (.t 7))),none,0⟩,
⟨(some 106),(.q (.bin .mul (.p .int) (.t 104) (.t 105))),none,0⟩,
⟨(some 107),(.q (.bin .sub (.p .int) (.t 103) (.t 106))),none,0⟩,
⟨(some 6),(.q (.mv (.t 102))),none,0⟩,
⟨(some 7),(.q (.mv (.t 107))),none,0⟩]))))))))))
(.seq (.reg [⟨(some 108),(.q (.ld true 4 (.t 8))),none,0⟩,
⟨none,(.x (.st 4 (.t 4) (.t 108))),none,0⟩])
.ret)))))))⟩
theorem row186 : Row Tryz.prog (186, a186) := ⟨Tryz.f186, Tryz.func186, by kernel_rfl⟩
noncomputable def a187 : AFn :=
⟨83,[(.t 4),(.t 5)],(.seq (.reg [⟨(some 4),(.q (.mv (.c .nilsl))),none,0⟩,
⟨(some 5),(.q (.mv (.c .nilsl))),none,0⟩])
(.seq (.seq (.reg [⟨(some 11),(.q (.mv (.t 0))),none,0⟩,
⟨(some 12),(.q (.mv (.t 1))),none,0⟩,
⟨(some 13),(.x (.call (.c (.fn 145 [] [])) [(.t 11),(.t 12)])),none,0⟩,
⟨(some 14),(.q (.bin .lss (.p .int) (.t 13) (.c (.int .i64 (.ofNat 0))))),none,0⟩])
(.cond (.t 14) (.seq (.reg [⟨(some 15),(.q (.mv (.t 0))),none,0⟩,
⟨(some 16),(.x (.call (.c (.fn 101 [] [])) [(.t 15)])),none,0⟩,
⟨(some 4),(.q (.mv (.c .nilsl))),none,0⟩,
⟨(some 5),(.q (.mv (.t 16))),none,0⟩])
.ret) .skip))
(.seq (.seq (.reg [⟨(some 17),(.q (.mv (.t 1))),none,0⟩,
⟨(some 18),(.q (.lenSl (.t 17))),none,0⟩,
⟨(some 19),(.q (.bin .eql (.p .int) (.t 18) (.c (.int .i64 (.ofNat 1))))),none,0⟩])
(.cond (.t 19) (.seq (.reg [⟨(some 20),(.q (.mv (.t 0))),none,0⟩,
⟨(some 21),(.q (.mv (.t 1))),none,0⟩,
⟨(some 22),(.q (.iaddr (.slice 1) (.t 21) (.c (.int .i64 (.ofNat 0))))),none,0⟩,
⟨(some 23),(.q (.ld false 1 (.t 22))),none,0⟩,
⟨(some 24),(.q (.conv (.int .u64) (.t 23))),none,0⟩,
⟨(some 25),(.x (.call (.c (.fn 235 [] [])) [(.t 20),(.t 24)])),none,0⟩,
⟨(some 26),(.q (.extract (.t 25) 0)),none,0⟩,
⟨(some 27),(.q (.extract (.t 25) 1)),none,0⟩,
⟨(some 4),(.q (.mv (.t 26))),none,0⟩,
⟨(some 5),(.q (.mv (.t 27))),none,0⟩])
.ret) .skip))
(.seq (.reg [⟨(some 28),(.q (.mv (.t 1))),none,0⟩,
⟨(some 29),(.q (.mv (.t 1))),none,0⟩,
⟨(some 30),(.q (.lenSl (.t 29))),none,0⟩,
⟨(some 31),(.q (.bin .sub (.p .int) (.t 30) (.c (.int .i64 (.ofNat 1))))),none,0⟩,
⟨(some 32),(.x (.call (.c (.fn 191 [] [])) [(.t 28),(.t 31)])),none,0⟩,
⟨(some 33),(.q (.bin .add (.p .int) (.t 32) (.c (.int .u64 (.ofNat 1))))),none,0⟩,
⟨(some 34),(.q (.bin .quo (.p .int) (.c (.int .u64 (.ofNat 1000000000))) (.t 33))),none,0⟩,
⟨(some 6),(.q (.mv (.t 34))),none,0⟩])
(.seq (.reg [⟨(some 35),(.q (.mv (.t 0))),none,0⟩,
⟨(some 36),(.q (.mv (.t 6))),none,0⟩,
⟨(some 37),(.q (.mv (.t 0))),none,0⟩,
⟨(some 38),(.q (.lenSl (.t 37))),none,0⟩,
⟨(some 39),(.q (.bin .add (.p .int) (.t 38) (.c (.int .i64 (.ofNat 1))))),none,0⟩,
⟨(some 40),(.x (.call (.c (.fn 236 [] [])) [(.t 35),(.t 36),(.t 39)])),none,0⟩,
⟨(some 41),(.q (.mv (.t 1))),none,0⟩,
⟨(some 42),(.q (.mv (.t 6))),none,0⟩,
⟨(some 43),(.q (.mv (.t 1))),none,0⟩,
⟨(some 44),(.q (.lenSl (.t 43))),none,0⟩,
⟨(some 45),(.x (.call (.c (.fn 236 [] [])) [(.t 41),(.t 42),(.t 44)])),none,0⟩,
⟨(some 7),(.q (.mv (.t 40))),none,0⟩,
⟨(some 8),(.q (.mv (.t 45))),none,0⟩])
(.seq (.reg [⟨(some 46),(.q (.mv (.t 8))),none,0⟩,
⟨(some 47),(.q (.lenSl (.t 46))),none,0⟩,
⟨(some 9),(.q (.mv (.t 47))),none,0⟩])
(.seq (.reg [⟨(some 48),(.q (.mv (.t 7))),none,0⟩,
⟨(some 49),(.q (.lenSl (.t 48))),none,0⟩,
⟨(some 50),(.q (.mv (.t 9))),none,0⟩,
⟨(some 51),(.q (.bin .sub (.p .int) (.t 49) (.t 50))),none,0⟩,
⟨(some 52),(.a (.mkSlice 149 1 4 [(.int .u32 (.ofNat 0))] (.t 51) (.t 51))),none,0⟩,
⟨(some 4),(.q (.mv (.t 52))),none,0⟩])
(.seq (.seq (.reg [⟨(some 53),(.q (.mv (.t 4))),none,0⟩,
⟨(some 54),(.q (.lenSl (.t 53))),none,0⟩,
⟨(some 55),(.q (.bin .sub (.p .int) (.t 54) (.c (.int .i64 (.ofNat 1))))),none,0⟩,
⟨(some 10),(.q (.mv (.t 55))),none,0⟩])
(.block 0 (.loop (.seq (.seq (.reg [⟨(some 56),(.q (.mv (.t 10))),none,0⟩,
⟨(some 57),(.q (.bin .geq (.p .int) (.t 56) (.c (.int .i64 (.ofNat 0))))),none,0⟩])
(.cond (.t 57) .skip (.exit 0)))
(.seq (.block 1 (.reg [⟨(some 60),(.q (.mv (.t 4))),none,0⟩,
⟨(some 61),(.q (.mv (.t 10))),none,0⟩,
⟨(some 62),(.q (.mv (.t 7))),none,0⟩,
⟨(some 63),(.q (.mv (.t 10))),none,0⟩,
⟨(some 64),(.q (.mv (.t 10))),none,0⟩,
⟨(some 65),(.q (.mv (.t 9))),none,0⟩,
⟨(some 66),(.q (.bin .add (.p .int) (.t 64) (.t 65))),none,0⟩,
⟨(some 67),(.q (.bin .add (.p .int) (.t 66) (.c (.int .i64 (.ofNat 1))))),none,0⟩,
⟨(some 68),(.q (.slc (.slice 1) (.t 62) (some (.t 63)) (some (.t 67)) none)),none,0⟩,
⟨(some 69),(.q (.mv (.t 8))),none,0⟩,
⟨(some 70),(.x (.call (.c (.fn 237 [] [])) [(.t 68),(.t 69)])),none,0⟩,
⟨(some 71),(.q (.conv (.int .u32) (.t 70))),none,0⟩,
⟨(some 72),(.q (.iaddr (.slice 1) (.t 60) (.t 61))),none,0⟩,
⟨none,(.x (.st 1 (.t 72) (.t 71))),none,0⟩]))
(.reg [⟨(some 58),(.q (.mv (.t 10))),none,0⟩,
⟨(some 59),(.q (.bin .sub (.p .int) (.t 58) (.c (.int .i64 (.ofNat 1))))),none,0⟩,
⟨(some 10),(.q (.mv (.t 59))),none,0⟩]))))))
(.seq (.reg [⟨(some 74),(.q (.mv (.t 7))),none,0⟩,
⟨(some 75),(.x (.call (.c (.fn 190 [] [])) [(.t 74)])),none,0⟩,
⟨(some 76),(.q (.mv (.t 6))),none,0⟩,
⟨(some 77),(.x (.call (.c (.fn 235 [] [])) [(.t 75),(.t 76)])),none,0⟩,
⟨(some 73),(.q (.mv (.t 77))),none,0⟩,
⟨(some 78),(.q (.extract (.t 73) 0)),none,0⟩,
⟨(some 79),(.q (.extract (.t 73) 1)),none,0⟩,
⟨(some 5),(.q (.mv (.t 78))),none,0⟩])
(.seq (.reg [⟨(some 80),(.q (.mv (.t 4))),none,0⟩,
⟨(some 81),(.x (.call (.c (.fn 190 [] [])) [(.t 80)])),none,0⟩,
⟨(some 82),(.q (.mv (.t 5))),none,0⟩,
⟨(some 4),(.q (.mv (.t 81))),none,0⟩,
⟨(some 5),(.q (.mv (.t 82))),none,0⟩])
.ret))))))))))⟩
theorem row187 : Row Tryz.prog (187, a187) := ⟨Tryz.f187, Tryz.func187, by kernel_rfl⟩
noncomputable def a188 : AFn :=
⟨58,[(.t 8)],(.seq (.reg [⟨(some 8),(.q (.mv (.c .nilsl))),none,0⟩])
(.seq (.reg [⟨(some 13),(.q (.mv (.t 1))),none,0⟩,
⟨(some 14),(.q (.lenSl (.t 13))),none,0⟩,
⟨(some 15),(.q (.mv (.t 3))),none,0⟩,
⟨(some 16),(.q (.lenSl (.t 15))),none,0⟩,
⟨(some 17),(.q (.minmax true [(.t 14),(.t 16)])),none,0⟩,
⟨(some 18),(.q (.bin .add (.p .int) (.t 17) (.c (.int .i64 (.ofNat 1))))),none,0⟩,
⟨(some 19),(.a (.mkSlice 149 1 4 [(.int .u32 (.ofNat 0))] (.t 18) (.t 18))),none,0⟩,
⟨(some 9),(.q (.mv (.t 19))),none,0⟩])
(.seq (.reg [⟨(some 10),(.q (.mv (.c (.int .i64 (.ofNat 0))))),none,0⟩])
(.seq (.seq (.reg [⟨(some 20),(.q (.mv (.t 9))),none,0⟩,
⟨(some 21),(.q (.lenSl (.t 20))),none,0⟩,
⟨(some 22),(.q (.mv (.c (.int .i64 (.ofNat 0))))),none,0⟩])
(.block 0 (.loop (.seq (.reg [⟨(some 23),(.q (.bin .lss (.p .int) (.t 22) (.t 21))),none,0⟩])
(.seq (.cond (.t 23) .skip (.exit 0))
(.seq (.block 1 (.seq (.reg [⟨(some 24),(.q (.mv (.t 22))),none,0⟩,
⟨(some 11),(.q (.mv (.t 24))),none,0⟩])
(.seq (.reg [⟨(some 25),(.q (.mv (.t 10))),none,0⟩,
⟨(some 26),(.q (.mv (.t 0))),none,0⟩,
⟨(some 27),(.q (.mv (.t 1))),none,0⟩,
⟨(some 28),(.q (.mv (.t 11))),none,0⟩,
⟨(some 29),(.x (.call (.c (.fn 191 [] [])) [(.t 27),(.t 28)])),none,0⟩,
⟨(some 30),(.q (.conv (.int .i64) (.t 29))),none,0⟩,
⟨(some 31),(.q (.bin .mul (.p .int) (.t 26) (.t 30))),none,0⟩,
⟨(some 32),(.q (.mv (.t 2))),none,0⟩,
⟨(some 33),(.q (.mv (.t 3))),none,0⟩,
⟨(some 34),(.q (.mv (.t 11))),none,0⟩,
⟨(some 35),(.x (.call (.c (.fn 191 [] [])) [(.t 33),(.t 34)])),none,0⟩,
⟨(some 36),(.q (.conv (.int .i64) (.t 35))),none,0⟩,
⟨(some 37),(.q (.bin .mul (.p .int) (.t 32) (.t 36))),none,0⟩,
⟨(some 38),(.q (.bin .add (.p .int) (.t 31) (.t 37))),none,0⟩,
⟨(some 39),(.q (.bin .add (.p .int) (.t 25) (.t 38))),none,0⟩,
⟨(some 10),(.q (.mv (.t 39))),none,0⟩])
(.seq (.reg [⟨(some 40),(.q (.mv (.t 10))),none,0⟩,
⟨(some 41),(.q (.bin .rem (.p .int) (.t 40) (.c (.int .i64 (.ofNat 1000000000))))),none,0⟩,
⟨(some 12),(.q (.mv (.t 41))),none,0⟩])
(.seq (.seq (.reg [⟨(some 42),(.q (.mv (.t 12))),none,0⟩,
⟨(some 43),(.q (.bin .lss (.p .int) (.t 42) (.c (.int .i64 (.ofNat 0))))),none,0⟩])
(.cond (.t 43) (.reg [⟨(some 44),(.q (.mv (.t 12))),none,0⟩,
⟨(some 45),(.q (.bin .add (.p .int) (.t 44) (.c (.int .i64 (.ofNat 1000000000))))),none,0⟩,
⟨(some 12),(.q (.mv (.t 45))),none,0⟩]) .skip))
(.seq (.reg [⟨(some 46),(.q (.mv (.t 9))),none,0⟩,
⟨(some 47),(.q (.mv (.t 11))),none,0⟩,
⟨(some 48),(.q (.mv (.t 12))),none,0⟩,
⟨(some 49),(.q (.conv (.int .u32) (.t 48))),none,0⟩,
⟨(some 50),(.q (.iaddr (.slice 1) (.t 46) (.t 47))),none,0⟩,
⟨none,(.x (.st 1 (.t 50) (.t 49))),none,0⟩])
(.reg [⟨(some 51),(.q (.mv (.t 10))),none,0⟩,
⟨(some 52),(.q (.mv (.t 12))),none,0⟩,
⟨(some 53),(.q (.bin .sub (.p .int) (.t 51) (.t 52))),none,0⟩,
⟨(some 54),(.q (.bin .quo (.p .int) (.t 53) (.c (.int .i64 (.ofNat 1000000000))))),none,0⟩,
⟨(some 10),(.q (.mv (.t 54))),none,0⟩])))))))
(.reg [⟨(some 55),(.q (.bin .add (.p .int) (.t 22) (.c (.int .i64 (.ofNat 1))))),none,0⟩,
⟨(some 22),(.q (.mv (.t 55))),none,0⟩])))))))
(.seq (.reg [⟨(some 56),(.q (.mv (.t 9))),none,0⟩,
⟨(some 57),(.x (.call (.c (.fn 190 [] [])) [(.t 56)])),none,0⟩,
⟨(some 8),(.q (.mv (.t 57))),none,0⟩])
.ret)))))⟩
theorem row188 : Row Tryz.prog (188, a188) := ⟨Tryz.f188, Tryz.func188, by kernel_rfl⟩
noncomputable def a189 : AFn :=
⟨21,[(.t 2)],(.seq (.reg [⟨(some 2),(.q (.mv (.c (.int .u64 (.ofNat 0))))),none,0⟩])
(.seq (.reg [⟨(some 3),(.q (.mv (.c (.int .u64 (.ofNat 0))))),none,0⟩])
(.seq (.seq (.reg [⟨(some 5),(.q (.mv (.t 0))),none,0⟩,
⟨(some 6),(.q (.lenSl (.t 5))),none,0⟩,
⟨(some 7),(.q (.bin .sub (.p .int) (.t 6) (.c (.int .i64 (.ofNat 1))))),none,0⟩,
⟨(some 4),(.q (.mv (.t 7))),none,0⟩])
(.block 0 (.loop (.seq (.seq (.reg [⟨(some 8),(.q (.mv (.t 4))),none,0⟩,
⟨(some 9),(.q (.bin .geq (.p .int) (.t 8) (.c (.int .i64 (.ofNat 0))))),none,0⟩])
(.cond (.t 9) .skip (.exit 0)))
(.seq (.block 1 (.reg [⟨(some 12),(.q (.mv (.t 3))),none,0⟩,
⟨(some 13),(.q (.bin .mul (.p .int) (.t 12) (.c (.int .u64 (.ofNat 1000000000))))),none,0⟩,
⟨(some 14),(.q (.mv (.t 0))),none,0⟩,
⟨(some 15),(.q (.mv (.t 4))),none,0⟩,
⟨(some 16),(.q (.iaddr (.slice 1) (.t 14) (.t 15))),none,0⟩,
⟨(some 17),(.q (.ld false 1 (.t 16))),none,0⟩,
⟨(some 18),(.q (.conv (.int .u64) (.t 17))),none,0⟩,
⟨(some 19),(.q (.bin .add (.p .int) (.t 13) (.t 18))),none,0⟩,
⟨(some 3),(.q (.mv (.t 19))),none,0⟩]))
(.reg [⟨(some 10),(.q (.mv (.t 4))),none,0⟩,
⟨(some 11),(.q (.bin .sub (.p .int) (.t 10) (.c (.int .i64 (.ofNat 1))))),none,0⟩,
⟨(some 4),(.q (.mv (.t 11))),none,0⟩]))))))
(.seq (.reg [⟨(some 20),(.q (.mv (.t 3))),none,0⟩,
⟨(some 2),(.q (.mv (.t 20))),none,0⟩])
.ret))))⟩
theorem row189 : Row Tryz.prog (189, a189) := ⟨Tryz.f189, Tryz.func189, by kernel_rfl⟩
noncomputable def a190 : AFn :=
⟨21,[(.t 2)],(.seq (.reg [⟨(some 2),(.q (.mv (.c .nilsl))),none,0⟩])
(.seq (.reg [⟨(some 4),(.q (.mv (.t 0))),none,0⟩,
⟨(some 5),(.q (.lenSl (.t 4))),none,0⟩,
⟨(some 3),(.q (.mv (.t 5))),none,0⟩])
(.seq (.block 0 (.loop (.seq (.seq (.reg [⟨(some 6),(.q (.mv (.t 3))),none,0⟩,
⟨(some 7),(.q (.bin .gtr (.p .int) (.t 6) (.c (.int .i64 (.ofNat 0))))),none,0⟩,
⟨(some 8),(.q (.mv (.t 7))),none,0⟩,
⟨(some 9),(.q (.mv (.t 0))),(some (8,true)),0⟩,
⟨(some 10),(.q (.mv (.t 3))),(some (8,true)),0⟩,
⟨(some 11),(.q (.bin .sub (.p .int) (.t 10) (.c (.int .i64 (.ofNat 1))))),(some (8,true)),0⟩,
⟨(some 12),(.q (.iaddr (.slice 1) (.t 9) (.t 11))),(some (8,true)),0⟩,
⟨(some 13),(.q (.ld false 1 (.t 12))),(some (8,true)),0⟩,
⟨(some 14),(.q (.bin .eql (.p .int) (.t 13) (.c (.int .u32 (.ofNat 0))))),(some (8,true)),0⟩,
⟨(some 15),(.q (.pick (.t 8) (.t 14) (.c (.bool false)))),none,0⟩])
(.cond (.t 15) .skip (.exit 0)))
(.block 1 (.reg [⟨(some 16),(.q (.mv (.t 3))),none,0⟩,
⟨(some 17),(.q (.bin .sub (.p .int) (.t 16) (.c (.int .i64 (.ofNat 1))))),none,0⟩,
⟨(some 3),(.q (.mv (.t 17))),none,0⟩])))))
(.seq (.reg [⟨(some 18),(.q (.mv (.t 0))),none,0⟩,
⟨(some 19),(.q (.mv (.t 3))),none,0⟩,
⟨(some 20),(.q (.slc (.slice 1) (.t 18) none (some (.t 19)) none)),none,0⟩,
⟨(some 2),(.q (.mv (.t 20))),none,0⟩])
.ret))))⟩
theorem row190 : Row Tryz.prog (190, a190) := ⟨Tryz.f190, Tryz.func190, by kernel_rfl⟩
noncomputable def a191 : AFn :=
⟨18,[(.t 4)],(.seq (.reg [⟨(some 4),(.q (.mv (.c (.int .u64 (.ofNat 0))))),none,0⟩])
(.seq (.seq (.reg [⟨(some 5),(.q (.mv (.t 1))),none,0⟩,
⟨(some 6),(.q (.bin .lss (.p .int) (.t 5) (.c (.int .i64 (.ofNat 0))))),none,0⟩,
⟨(some 7),(.q (.mv (.t 6))),none,0⟩,
⟨(some 8),(.q (.mv (.t 1))),(some (7,false)),0⟩,
⟨(some 9),(.q (.mv (.t 0))),(some (7,false)),0⟩,
⟨(some 10),(.q (.lenSl (.t 9))),(some (7,false)),0⟩,
⟨(some 11),(.q (.bin .geq (.p .int) (.t 8) (.t 10))),(some (7,false)),0⟩,
⟨(some 12),(.q (.pick (.t 7) (.c (.bool true)) (.t 11))),none,0⟩])
(.cond (.t 12) (.seq (.reg [⟨(some 4),(.q (.mv (.c (.int .u64 (.ofNat 0))))),none,0⟩])
.ret) .skip))
(.seq (.reg [⟨(some 13),(.q (.mv (.t 0))),none,0⟩,
⟨(some 14),(.q (.mv (.t 1))),none,0⟩,
⟨(some 15),(.q (.iaddr (.slice 1) (.t 13) (.t 14))),none,0⟩,
⟨(some 16),(.q (.ld false 1 (.t 15))),none,0⟩,
⟨(some 17),(.q (.conv (.int .u64) (.t 16))),none,0⟩,
⟨(some 4),(.q (.mv (.t 17))),none,0⟩])
.ret)))⟩
theorem row191 : Row Tryz.prog (191, a191) := ⟨Tryz.f191, Tryz.func191, by kernel_rfl⟩
noncomputable def a192 : AFn :=
⟨43,[(.t 4)],(.seq (.reg [⟨(some 3),(.a (.box 75 (.t 1))),none,0⟩,
⟨(some 4),(.q (.mv (.c (.int .i64 (.ofNat 0))))),none,0⟩])
(.seq (.seq (.reg [⟨(some 5),(.q (.faddr 1 (.t 3))),none,0⟩,
⟨(some 6),(.q (.ld false 1 (.t 5))),none,0⟩,
⟨(some 7),(.q (.bin .neq (.p .int) (.t 6) (.c (.int .i64 (.ofNat 0))))),none,0⟩,
⟨(some 8),(.q (.mv (.t 7))),none,0⟩,
⟨(some 9),(.q (.faddr 2 (.t 3))),(some (8,false)),0⟩,
⟨(some 10),(.q (.ld false 1 (.t 9))),(some (8,false)),0⟩,
⟨(some 11),(.q (.bin .neq (.p .int) (.t 10) (.c (.int .i64 (.ofNat 0))))),(some (8,false)),0⟩,
⟨(some 12),(.q (.pick (.t 8) (.c (.bool true)) (.t 11))),none,0⟩,
⟨(some 13),(.q (.mv (.t 12))),none,0⟩,
⟨(some 14),(.q (.faddr 5 (.t 3))),(some (13,false)),0⟩,
⟨(some 15),(.q (.ld false 1 (.t 14))),(some (13,false)),0⟩,
⟨(some 16),(.q (.lenSl (.t 15))),(some (13,false)),0⟩,
⟨(some 17),(.q (.bin .gtr (.p .int) (.t 16) (.c (.int .i64 (.ofNat 0))))),(some (13,false)),0⟩,
⟨(some 18),(.q (.pick (.t 13) (.c (.bool true)) (.t 17))),none,0⟩,
⟨(some 19),(.q (.mv (.t 18))),none,0⟩,
⟨(some 20),(.q (.faddr 3 (.t 3))),(some (19,false)),0⟩,
⟨(some 21),(.q (.ld false 1 (.t 20))),(some (19,false)),0⟩,
⟨(some 22),(.q (.lenSl (.t 21))),(some (19,false)),0⟩,
⟨(some 23),(.q (.bin .lss (.p .int) (.t 22) (.c (.int .i64 (.ofNat 1))))),(some (19,false)),0⟩,
⟨(some 24),(.q (.pick (.t 19) (.c (.bool true)) (.t 23))),none,0⟩,
⟨(some 25),(.q (.mv (.t 24))),none,0⟩,
⟨(some 26),(.q (.faddr 3 (.t 3))),(some (25,false)),0⟩,
⟨(some 27),(.q (.ld false 1 (.t 26))),(some (25,false)),0⟩,
⟨(some 28),(.q (.lenSl (.t 27))),(some (25,false)),0⟩,
⟨(some 29),(.q (.bin .gtr (.p .int) (.t 28) (.c (.int .i64 (.ofNat 60))))),(some (25,false)),0⟩,
⟨(some 30),(.q (.pick (.t 25) (.c (.bool true)) (.t 29))),none,0⟩,
⟨(some 31),(.q (.mv (.t 30))),none,0⟩,
⟨(some 32),(.q (.faddr 4 (.t 3))),(some (31,false)),0⟩,
⟨(some 33),(.q (.ld false 1 (.t 32))),(some (31,false)),0⟩,
⟨(some 34),(.q (.lenSl (.t 33))),(some (31,false)),0⟩,
⟨(some 35),(.q (.faddr 3 (.t 3))),(some (31,false)),0⟩,
⟨(some 36),(.q (.ld false 1 (.t 35))),(some (31,false)),0⟩,
⟨(some 37),(.q (.lenSl (.t 36))),(some (31,false)),0⟩,
⟨(some 38),(.q (.bin .neq (.p .int) (.t 34) (.t 37))),(some (31,false)),0⟩,
⟨(some 39),(.q (.pick (.t 31) (.c (.bool true)) (.t 38))),none,0⟩])
(.cond (.t 39) (.seq (.reg [⟨(some 4),(.q (.mv (.c (.int .i64 (.ofNat 3))))),none,0⟩])
.ret) .skip))
(.seq (.reg [⟨(some 40),(.q (.faddr 4 (.t 3))),none,0⟩,
⟨(some 41),(.q (.ld false 1 (.t 40))),none,0⟩,
⟨(some 42),(.x (.call (.c (.fn 238 [] [])) [(.c (.int .i64 (.ofNat 1))),(.c (.int .i64 (.ofNat 1000))),(.t 41)])),none,0⟩,
⟨(some 4),(.q (.mv (.t 42))),none,0⟩])
.ret)))⟩
theorem row192 : Row Tryz.prog (192, a192) := ⟨Tryz.f192, Tryz.func192, by kernel_rfl⟩
noncomputable def a193 : AFn :=
⟨52,[(.t 4)],(.seq (.reg [⟨(some 3),(.a (.box 75 (.t 1))),none,0⟩,
⟨(some 4),(.q (.mv (.c (.int .i64 (.ofNat 0))))),none,0⟩])
(.seq (.seq (.reg [⟨(some 6),(.q (.faddr 4 (.t 3))),none,0⟩,
⟨(some 7),(.q (.ld false 1 (.t 6))),none,0⟩,
⟨(some 8),(.q (.lenSl (.t 7))),none,0⟩,
⟨(some 9),(.q (.bin .gtr (.p .int) (.t 8) (.c (.int .i64 (.ofNat 0))))),none,0⟩,
⟨(some 10),(.q (.mv (.t 9))),none,0⟩,
⟨(some 11),(.q (.faddr 5 (.t 3))),(some (10,false)),0⟩,
⟨(some 12),(.q (.ld false 1 (.t 11))),(some (10,false)),0⟩,
⟨(some 13),(.q (.lenSl (.t 12))),(some (10,false)),0⟩,
⟨(some 14),(.q (.bin .gtr (.p .int) (.t 13) (.c (.int .i64 (.ofNat 0))))),(some (10,false)),0⟩,
⟨(some 15),(.q (.pick (.t 10) (.c (.bool true)) (.t 14))),none,0⟩,
⟨(some 16),(.q (.mv (.t 15))),none,0⟩,
⟨(some 17),(.q (.faddr 3 (.t 3))),(some (16,false)),0⟩,
⟨(some 18),(.q (.ld false 1 (.t 17))),(some (16,false)),0⟩,
⟨(some 19),(.q (.lenSl (.t 18))),(some (16,false)),0⟩,
⟨(some 20),(.q (.bin .lss (.p .int) (.t 19) (.c (.int .i64 (.ofNat 1))))),(some (16,false)),0⟩,
⟨(some 21),(.q (.pick (.t 16) (.c (.bool true)) (.t 20))),none,0⟩,
⟨(some 22),(.q (.mv (.t 21))),none,0⟩,
⟨(some 23),(.q (.faddr 3 (.t 3))),(some (22,false)),0⟩,
⟨(some 24),(.q (.ld false 1 (.t 23))),(some (22,false)),0⟩,
⟨(some 25),(.q (.lenSl (.t 24))),(some (22,false)),0⟩,
⟨(some 26),(.q (.bin .gtr (.p .int) (.t 25) (.c (.int .i64 (.ofNat 10))))),(some (22,false)),0⟩,
⟨(some 27),(.q (.pick (.t 22) (.c (.bool true)) (.t 26))),none,0⟩])
(.cond (.t 27) (.seq (.reg [⟨(some 4),(.q (.mv (.c (.int .i64 (.ofNat 3))))),none,0⟩])
.ret) .skip))
(.seq (.seq (.drw [⟨(some 28),(.q (.mv (.t 0))),none,0⟩,
⟨(some 29),(.q (.nilchk (.t 28))),none,1⟩,
⟨(some 30),(.q (.faddr 0 (.t 29))),none,3⟩,
⟨(some 31),(.q (.faddr 0 (.t 30))),none,7⟩,
⟨(some 32),(.q (.ld false 1 (.t 31))),none,15⟩,
⟨(some 33),(.q (.bin .sub (.p .int) (.t 32) (.c (.int .i64 (.ofNat 1))))),none,31⟩,
⟨(some 34),(.q (.faddr 1 (.t 3))),none,0⟩,
⟨(some 35),(.q (.ld false 1 (.t 34))),none,64⟩,
⟨(some 36),(.a (.bslice 3 1 1 [(.int .i64 (.ofNat 0))] [(0,(.t 35))])),none,192⟩,
⟨(some 37),(.x (.call (.c (.fn 238 [] [])) [(.c (.int .i64 (.ofNat 0))),(.t 33),(.t 36)])),none,511⟩,
⟨(some 5),(.q (.mv (.t 37))),none,1023⟩])
(.seq (.reg [⟨(some 38),(.q (.mv (.t 5))),none,0⟩,
⟨(some 39),(.q (.bin .neq (.p .int) (.t 38) (.c (.int .i64 (.ofNat 0))))),none,0⟩])
(.cond (.t 39) (.seq (.reg [⟨(some 40),(.q (.mv (.t 5))),none,0⟩,
⟨(some 4),(.q (.mv (.t 40))),none,0⟩])
.ret) .skip)))
(.seq (.drw [⟨(some 41),(.q (.mv (.t 0))),none,0⟩,
⟨(some 42),(.q (.nilchk (.t 41))),none,1⟩,
⟨(some 43),(.q (.faddr 0 (.t 42))),none,3⟩,
⟨(some 44),(.q (.faddr 2 (.t 43))),none,7⟩,
⟨(some 45),(.q (.ld false 1 (.t 44))),none,15⟩,
⟨(some 46),(.q (.lenSl (.t 45))),none,31⟩,
⟨(some 47),(.q (.bin .sub (.p .int) (.t 46) (.c (.int .i64 (.ofNat 1))))),none,63⟩,
⟨(some 48),(.q (.faddr 2 (.t 3))),none,0⟩,
⟨(some 49),(.q (.ld false 1 (.t 48))),none,128⟩,
⟨(some 50),(.a (.bslice 3 1 1 [(.int .i64 (.ofNat 0))] [(0,(.t 49))])),none,384⟩,
⟨(some 51),(.x (.call (.c (.fn 238 [] [])) [(.c (.int .i64 (.ofNat 0))),(.t 47),(.t 50)])),none,1023⟩,
⟨(some 4),(.q (.mv (.t 51))),none,2047⟩])
.ret))))⟩
theorem row193 : Row Tryz.prog (193, a193) := ⟨Tryz.f193, Tryz.func193, by kernel_rfl⟩
noncomputable def a194 : AFn :=
⟨39,[(.t 4)],(.seq (.reg [⟨(some 3),(.a (.box 75 (.t 1))),none,0⟩,
⟨(some 4),(.q (.mv (.c (.int .i64 (.ofNat 0))))),none,0⟩])
(.seq (.seq (.drw [⟨(some 5),(.q (.faddr 1 (.t 3))),none,0⟩,
⟨(some 6),(.q (.ld false 1 (.t 5))),none,1⟩,
⟨(some 7),(.q (.bin .neq (.p .int) (.t 6) (.c (.int .i64 (.ofNat 0))))),none,3⟩,
⟨(some 8),(.q (.mv (.t 7))),none,7⟩,
⟨(some 9),(.q (.faddr 2 (.t 3))),(some (8,false)),15⟩,
⟨(some 10),(.q (.ld false 1 (.t 9))),(some (8,false)),31⟩,
⟨(some 11),(.q (.bin .neq (.p .int) (.t 10) (.c (.int .i64 (.ofNat 0))))),(some (8,false)),63⟩,
⟨(some 12),(.q (.pick (.t 8) (.c (.bool true)) (.t 11))),none,127⟩,
⟨(some 13),(.q (.mv (.t 12))),none,255⟩,
⟨(some 14),(.q (.faddr 3 (.t 3))),(some (13,false)),511⟩,
⟨(some 15),(.q (.ld false 1 (.t 14))),(some (13,false)),1023⟩,
⟨(some 16),(.q (.lenSl (.t 15))),(some (13,false)),2047⟩,
⟨(some 17),(.q (.bin .gtr (.p .int) (.t 16) (.c (.int .i64 (.ofNat 0))))),(some (13,false)),4095⟩,
⟨(some 18),(.q (.pick (.t 13) (.c (.bool true)) (.t 17))),none,8191⟩,
⟨(some 19),(.q (.mv (.t 18))),none,16383⟩,
⟨(some 20),(.q (.faddr 4 (.t 3))),(some (19,false)),32767⟩,
⟨(some 21),(.q (.ld false 1 (.t 20))),(some (19,false)),65535⟩,
⟨(some 22),(.q (.lenSl (.t 21))),(some (19,false)),131071⟩,
⟨(some 23),(.q (.bin .gtr (.p .int) (.t 22) (.c (.int .i64 (.ofNat 0))))),(some (19,false)),262143⟩,
⟨(some 24),(.q (.pick (.t 19) (.c (.bool true)) (.t 23))),none,524287⟩,
⟨(some 25),(.q (.mv (.t 24))),none,1048575⟩,
⟨(some 26),(.q (.faddr 5 (.t 3))),(some (25,false)),2097151⟩,
⟨(some 27),(.q (.ld false 1 (.t 26))),(some (25,false)),4194303⟩,
⟨(some 28),(.q (.lenSl (.t 27))),(some (25,false)),8388607⟩,
⟨(some 29),(.q (.mv (.t 0))),(some (25,false)),2097151⟩,
⟨(some 30),(.q (.nilchk (.t 29))),(some (25,false)),18874367⟩,
⟨(some 31),(.q (.faddr 0 (.t 30))),(some (25,false)),52428799⟩,
⟨(some 32),(.q (.faddr 0 (.t 31))),(some (25,false)),119537663⟩,
⟨(some 33),(.q (.ld false 1 (.t 32))),(some (25,false)),253755391⟩,
⟨(some 34),(.q (.bin .neq (.p .int) (.t 28) (.t 33))),(some (25,false)),536870911⟩,
⟨(some 35),(.q (.pick (.t 25) (.c (.bool true)) (.t 34))),none,1073741823⟩])
(.cond (.t 35) (.seq (.reg [⟨(some 4),(.q (.mv (.c (.int .i64 (.ofNat 3))))),none,0⟩])
.ret) .skip))
(.seq (.reg [⟨(some 36),(.q (.faddr 5 (.t 3))),none,0⟩,
⟨(some 37),(.q (.ld false 1 (.t 36))),none,0⟩,
⟨(some 38),(.x (.call (.c (.fn 238 [] [])) [(.c (.int .i64 (.negSucc 999999))),(.c (.int .i64 (.ofNat 1000000))),(.t 37)])),none,0⟩,
⟨(some 4),(.q (.mv (.t 38))),none,0⟩])
.ret)))⟩
theorem row194 : Row Tryz.prog (194, a194) := ⟨Tryz.f194, Tryz.func194, by kernel_rfl⟩
noncomputable def a195 : AFn :=
⟨9,[(.t 4)],(.seq (.reg [⟨(some 4),(.q (.mv (.c (.bool false)))),none,0⟩])
(.seq (.reg [⟨(some 5),(.q (.mv (.t 0))),none,0⟩,
⟨(some 6),(.q (.mv (.t 1))),none,0⟩,
⟨(some 7),(.x (.call (.c (.fn 239 [] [])) [(.t 5),(.t 6)])),none,0⟩,
⟨(some 8),(.q (.bin .geq (.p .int) (.t 7) (.c (.int .i64 (.ofNat 0))))),none,0⟩,
⟨(some 4),(.q (.mv (.t 8))),none,0⟩])
.ret))⟩
theorem row195 : Row Tryz.prog (195, a195) := ⟨Tryz.f195, Tryz.func195, by kernel_rfl⟩
noncomputable def a196 : AFn :=
⟨21,[(.t 2)],(.seq (.reg [⟨(some 2),(.q (.mv (.c (.bool false)))),none,0⟩])
(.seq (.seq (.reg [⟨(some 4),(.q (.mv (.t 0))),none,0⟩,
⟨(some 5),(.q (.lenSl (.t 4))),none,0⟩,
⟨(some 6),(.q (.bin .sub (.p .int) (.t 5) (.c (.int .i64 (.ofNat 1))))),none,0⟩,
⟨(some 3),(.q (.mv (.t 6))),none,0⟩])
(.block 0 (.loop (.seq (.seq (.reg [⟨(some 7),(.q (.mv (.t 3))),none,0⟩,
⟨(some 8),(.q (.bin .gtr (.p .int) (.t 7) (.c (.int .i64 (.ofNat 0))))),none,0⟩])
(.cond (.t 8) .skip (.exit 0)))
(.seq (.block 1 (.seq (.drw [⟨(some 11),(.q (.mv (.t 0))),none,0⟩,
⟨(some 12),(.q (.mv (.t 3))),none,0⟩,
⟨(some 13),(.q (.iaddr (.slice 1) (.t 11) (.t 12))),none,3⟩,
⟨(some 14),(.q (.ld false 1 (.t 13))),none,7⟩,
⟨(some 15),(.q (.mv (.t 0))),none,0⟩,
⟨(some 16),(.q (.mv (.t 3))),none,0⟩,
⟨(some 17),(.q (.bin .sub (.p .int) (.t 16) (.c (.int .i64 (.ofNat 1))))),none,32⟩,
⟨(some 18),(.q (.iaddr (.slice 1) (.t 15) (.t 17))),none,112⟩,
⟨(some 19),(.q (.ld false 1 (.t 18))),none,240⟩,
⟨(some 20),(.x (.call (.c (.fn 203 [] [])) [(.t 14),(.t 19)])),none,511⟩])
(.cond (.t 20) (.seq (.reg [⟨(some 2),(.q (.mv (.c (.bool false)))),none,0⟩])
.ret) .skip)))
(.reg [⟨(some 9),(.q (.mv (.t 3))),none,0⟩,
⟨(some 10),(.q (.bin .sub (.p .int) (.t 9) (.c (.int .i64 (.ofNat 1))))),none,0⟩,
⟨(some 3),(.q (.mv (.t 10))),none,0⟩]))))))
(.seq (.reg [⟨(some 2),(.q (.mv (.c (.bool true)))),none,0⟩])
.ret)))⟩
theorem row196 : Row Tryz.prog (196, a196) := ⟨Tryz.f196, Tryz.func196, by kernel_rfl⟩
noncomputable def a203 : AFn :=
⟨17,[(.t 4)],(.seq (.reg [⟨(some 4),(.q (.mv (.c (.bool false)))),none,0⟩])
(.seq (.reg [⟨(some 5),(.q (.mv (.t 0))),none,0⟩,
⟨(some 6),(.x (.call (.c (.fn 245 [] [])) [(.t 5)])),none,0⟩,
⟨(some 7),(.q (.mv (.t 6))),none,0⟩,
⟨(some 8),(.q (.mv (.t 1))),(some (7,true)),0⟩,
⟨(some 9),(.x (.call (.c (.fn 245 [] [])) [(.t 8)])),(some (7,true)),0⟩,
⟨(some 10),(.q (.un .not (.t 9))),(some (7,true)),0⟩,
⟨(some 11),(.q (.pick (.t 7) (.t 10) (.c (.bool false)))),none,0⟩,
⟨(some 12),(.q (.mv (.t 11))),none,0⟩,
⟨(some 13),(.q (.mv (.t 0))),(some (12,false)),0⟩,
⟨(some 14),(.q (.mv (.t 1))),(some (12,false)),0⟩,
⟨(some 15),(.q (.bin .lss (.p .int) (.t 13) (.t 14))),(some (12,false)),0⟩,
⟨(some 16),(.q (.pick (.t 12) (.c (.bool true)) (.t 15))),none,0⟩,
⟨(some 4),(.q (.mv (.t 16))),none,0⟩])
.ret))⟩
theorem row203 : Row Tryz.prog (203, a203) := ⟨Tryz.f203, Tryz.func203, by kernel_rfl⟩
noncomputable def a221 : AFn :=
⟨14,[(.t 2)],(.seq (.reg [⟨(some 2),(.q (.mv (.c (.int .i64 (.ofNat 0))))),none,0⟩])
(.seq (.seq (.reg [⟨(some 3),(.q (.mv (.t 0))),none,0⟩,
⟨(some 4),(.q (.bin .eql (.p .int) (.t 3) (.c (.int .u64 (.ofNat 0))))),none,0⟩])
(.cond (.t 4) (.seq (.reg [⟨(some 2),(.q (.mv (.c (.int .i64 (.ofNat 64))))),none,0⟩])
.ret) .skip))
(.seq (.reg [⟨(some 5),(.q (.mv (.t 0))),none,0⟩,
⟨(some 6),(.q (.mv (.t 0))),none,0⟩,
⟨(some 7),(.q (.un .neg (.t 6))),none,0⟩,
⟨(some 8),(.q (.bin .and (.p .int) (.t 5) (.t 7))),none,0⟩,
⟨(some 9),(.q (.bin .mul (.p .int) (.t 8) (.c (.int .u64 (.ofNat 285870213051353865))))),none,0⟩,
⟨(some 10),(.q (.bin .shr (.p .int) (.t 9) (.c (.int .u64 (.ofNat 58))))),none,0⟩,
⟨(some 11),(.q (.iaddr (.arr 64 1) (.c (.ptr 0 0)) (.t 10))),none,0⟩,
⟨(some 12),(.q (.ld false 1 (.t 11))),none,0⟩,
⟨(some 13),(.q (.conv (.int .i64) (.t 12))),none,0⟩,
⟨(some 2),(.q (.mv (.t 13))),none,0⟩])
.ret)))⟩
theorem row221 : Row Tryz.prog (221, a221) := ⟨Tryz.f221, Tryz.func221, by kernel_rfl⟩
noncomputable def a222 : AFn :=
⟨41,[(.t 4)],(.seq (.reg [⟨(some 4),(.q (.mv (.c (.int .i64 (.ofNat 0))))),none,0⟩])
(.seq (.seq (.reg [⟨(some 6),(.q (.mv (.t 0))),none,0⟩,
⟨(some 7),(.q (.lenSl (.t 6))),none,0⟩,
⟨(some 8),(.q (.mv (.t 1))),none,0⟩,
⟨(some 9),(.q (.lenSl (.t 8))),none,0⟩,
⟨(some 10),(.q (.bin .neq (.p .int) (.t 7) (.t 9))),none,0⟩])
(.cond (.t 10) (.seq (.seq (.reg [⟨(some 11),(.q (.mv (.t 0))),none,0⟩,
⟨(some 12),(.q (.lenSl (.t 11))),none,0⟩,
⟨(some 13),(.q (.mv (.t 1))),none,0⟩,
⟨(some 14),(.q (.lenSl (.t 13))),none,0⟩,
⟨(some 15),(.q (.bin .lss (.p .int) (.t 12) (.t 14))),none,0⟩])
(.cond (.t 15) (.seq (.reg [⟨(some 4),(.q (.mv (.c (.int .i64 (.negSucc 0))))),none,0⟩])
.ret) .skip))
(.seq (.reg [⟨(some 4),(.q (.mv (.c (.int .i64 (.ofNat 1))))),none,0⟩])
.ret)) .skip))
(.seq (.seq (.reg [⟨(some 16),(.q (.mv (.t 0))),none,0⟩,
⟨(some 17),(.q (.lenSl (.t 16))),none,0⟩,
⟨(some 18),(.q (.bin .sub (.p .int) (.t 17) (.c (.int .i64 (.ofNat 1))))),none,0⟩,
⟨(some 5),(.q (.mv (.t 18))),none,0⟩])
(.block 0 (.loop (.seq (.seq (.reg [⟨(some 19),(.q (.mv (.t 5))),none,0⟩,
⟨(some 20),(.q (.bin .geq (.p .int) (.t 19) (.c (.int .i64 (.ofNat 0))))),none,0⟩])
(.cond (.t 20) .skip (.exit 0)))
(.seq (.block 1 (.seq (.seq (.drw [⟨(some 23),(.q (.mv (.t 0))),none,0⟩,
⟨(some 24),(.q (.mv (.t 5))),none,0⟩,
⟨(some 25),(.q (.iaddr (.slice 1) (.t 23) (.t 24))),none,3⟩,
⟨(some 26),(.q (.ld false 1 (.t 25))),none,7⟩,
⟨(some 27),(.q (.mv (.t 1))),none,0⟩,
⟨(some 28),(.q (.mv (.t 5))),none,0⟩,
⟨(some 29),(.q (.iaddr (.slice 1) (.t 27) (.t 28))),none,48⟩,
⟨(some 30),(.q (.ld false 1 (.t 29))),none,112⟩,
⟨(some 31),(.q (.bin .lss (.p .int) (.t 26) (.t 30))),none,255⟩])
(.cond (.t 31) (.seq (.reg [⟨(some 4),(.q (.mv (.c (.int .i64 (.negSucc 0))))),none,0⟩])
.ret) .skip))
(.seq (.drw [⟨(some 32),(.q (.mv (.t 0))),none,0⟩,
⟨(some 33),(.q (.mv (.t 5))),none,0⟩,
⟨(some 34),(.q (.iaddr (.slice 1) (.t 32) (.t 33))),none,3⟩,
⟨(some 35),(.q (.ld false 1 (.t 34))),none,7⟩,
⟨(some 36),(.q (.mv (.t 1))),none,0⟩,
⟨(some 37),(.q (.mv (.t 5))),none,0⟩,
⟨(some 38),(.q (.iaddr (.slice 1) (.t 36) (.t 37))),none,48⟩,
⟨(some 39),(.q (.ld false 1 (.t 38))),none,112⟩,
⟨(some 40),(.q (.bin .gtr (.p .int) (.t 35) (.t 39))),none,255⟩])
(.cond (.t 40) (.seq (.reg [⟨(some 4),(.q (.mv (.c (.int .i64 (.ofNat 1))))),none,0⟩])
.ret) .skip))))
(.reg [⟨(some 21),(.q (.mv (.t 5))),none,0⟩,
⟨(some 22),(.q (.bin .sub (.p .int) (.t 21) (.c (.int .i64 (.ofNat 1))))),none,0⟩,
⟨(some 5),(.q (.mv (.t 22))),none,0⟩]))))))
(.seq (.reg [⟨(some 4),(.q (.mv (.c (.int .i64 (.ofNat 0))))),none,0⟩])
.ret))))⟩
theorem row222 : Row Tryz.prog (222, a222) := ⟨Tryz.f222, Tryz.func222, by kernel_rfl⟩
noncomputable def a223 : AFn :=
⟨69,[(.t 4),(.t 5),(.t 6),(.t 7)],(.seq (.reg [⟨(some 4),(.q (.mv (.c (.int .i64 (.ofNat 0))))),none,0⟩,
⟨(some 5),(.q (.mv (.c (.int .i64 (.ofNat 0))))),none,0⟩,
⟨(some 6),(.q (.mv (.c (.int .i64 (.ofNat 0))))),none,0⟩,
⟨(some 7),(.q (.mv (.c (.int .i64 (.ofNat 0))))),none,0⟩])
(.seq (.reg [⟨(some 4),(.q (.mv (.c (.int .i64 (.ofNat 1))))),none,0⟩,
⟨(some 5),(.q (.mv (.c (.int .i64 (.ofNat 0))))),none,0⟩,
⟨(some 6),(.q (.mv (.c (.int .i64 (.ofNat 0))))),none,0⟩,
⟨(some 7),(.q (.mv (.c (.int .i64 (.ofNat 1))))),none,0⟩])
(.seq (.block 0 (.loop (.seq (.seq (.reg [⟨(some 11),(.q (.mv (.t 1))),none,0⟩,
⟨(some 12),(.q (.mv (.t 6))),none,0⟩,
⟨(some 13),(.q (.bin .add (.p .int) (.t 11) (.t 12))),none,0⟩,
⟨(some 14),(.q (.bin .neq (.p .int) (.t 13) (.c (.int .i64 (.ofNat 0))))),none,0⟩,
⟨(some 15),(.q (.mv (.t 14))),none,0⟩,
⟨(some 16),(.q (.mv (.t 1))),(some (15,true)),0⟩,
⟨(some 17),(.q (.mv (.t 7))),(some (15,true)),0⟩,
⟨(some 18),(.q (.bin .add (.p .int) (.t 16) (.t 17))),(some (15,true)),0⟩,
⟨(some 19),(.q (.bin .neq (.p .int) (.t 18) (.c (.int .i64 (.ofNat 0))))),(some (15,true)),0⟩,
⟨(some 20),(.q (.pick (.t 15) (.t 19) (.c (.bool false)))),none,0⟩])
(.cond (.t 20) .skip (.exit 0)))
(.block 1 (.seq (.reg [⟨(some 21),(.q (.mv (.t 0))),none,0⟩,
⟨(some 22),(.q (.mv (.t 4))),none,0⟩,
⟨(some 23),(.q (.bin .add (.p .int) (.t 21) (.t 22))),none,0⟩,
⟨(some 24),(.q (.mv (.t 1))),none,0⟩,
⟨(some 25),(.q (.mv (.t 6))),none,0⟩,
⟨(some 26),(.q (.bin .add (.p .int) (.t 24) (.t 25))),none,0⟩,
⟨(some 27),(.q (.bin .quo (.p .int) (.t 23) (.t 26))),none,0⟩,
⟨(some 8),(.q (.mv (.t 27))),none,0⟩])
(.seq (.seq (.reg [⟨(some 28),(.q (.mv (.t 8))),none,0⟩,
⟨(some 29),(.q (.mv (.t 0))),none,0⟩,
⟨(some 30),(.q (.mv (.t 5))),none,0⟩,
⟨(some 31),(.q (.bin .add (.p .int) (.t 29) (.t 30))),none,0⟩,
⟨(some 32),(.q (.mv (.t 1))),none,0⟩,
⟨(some 33),(.q (.mv (.t 7))),none,0⟩,
⟨(some 34),(.q (.bin .add (.p .int) (.t 32) (.t 33))),none,0⟩,
⟨(some 35),(.q (.bin .quo (.p .int) (.t 31) (.t 34))),none,0⟩,
⟨(some 36),(.q (.bin .neq (.p .int) (.t 28) (.t 35))),none,0⟩])
(.cond (.t 36) (.exit 0) .skip))
(.seq (.reg [⟨(some 37),(.q (.mv (.t 4))),none,0⟩,
⟨(some 38),(.q (.mv (.t 8))),none,0⟩,
⟨(some 39),(.q (.mv (.t 6))),none,0⟩,
⟨(some 40),(.q (.bin .mul (.p .int) (.t 38) (.t 39))),none,0⟩,
⟨(some 41),(.q (.bin .sub (.p .int) (.t 37) (.t 40))),none,0⟩,
⟨(some 42),(.q (.mv (.t 5))),none,0⟩,
⟨(some 43),(.q (.mv (.t 8))),none,0⟩,
⟨(some 44),(.q (.mv (.t 7))),none,0⟩,
⟨(some 45),(.q (.bin .mul (.p .int) (.t 43) (.t 44))),none,0⟩,
⟨(some 46),(.q (.bin .sub (.p .int) (.t 42) (.t 45))),none,0⟩,
⟨(some 9),(.q (.mv (.t 41))),none,0⟩,
⟨(some 10),(.q (.mv (.t 46))),none,0⟩])
(.seq (.seq (.reg [⟨(some 47),(.q (.mv (.t 9))),none,0⟩,
⟨(some 48),(.q (.mv (.t 9))),none,0⟩,
⟨(some 49),(.q (.un .neg (.t 48))),none,0⟩,
⟨(some 50),(.q (.mv (.t 10))),none,0⟩,
⟨(some 51),(.q (.mv (.t 10))),none,0⟩,
⟨(some 52),(.q (.un .neg (.t 51))),none,0⟩,
⟨(some 53),(.q (.minmax true [(.t 47),(.t 49),(.t 50),(.t 52)])),none,0⟩,
⟨(some 54),(.q (.bin .geq (.p .int) (.t 53) (.c (.int .i64 (.ofNat 1000000000))))),none,0⟩])
(.cond (.t 54) (.exit 0) .skip))
(.seq (.reg [⟨(some 55),(.q (.mv (.t 6))),none,0⟩,
⟨(some 56),(.q (.mv (.t 7))),none,0⟩,
⟨(some 57),(.q (.mv (.t 9))),none,0⟩,
⟨(some 58),(.q (.mv (.t 10))),none,0⟩,
⟨(some 4),(.q (.mv (.t 55))),none,0⟩,
⟨(some 5),(.q (.mv (.t 56))),none,0⟩,
⟨(some 6),(.q (.mv (.t 57))),none,0⟩,
⟨(some 7),(.q (.mv (.t 58))),none,0⟩])
(.reg [⟨(some 59),(.q (.mv (.t 1))),none,0⟩,
⟨(some 60),(.q (.mv (.t 0))),none,0⟩,
⟨(some 61),(.q (.mv (.t 8))),none,0⟩,
⟨(some 62),(.q (.mv (.t 1))),none,0⟩,
⟨(some 63),(.q (.bin .mul (.p .int) (.t 61) (.t 62))),none,0⟩,
⟨(some 64),(.q (.bin .sub (.p .int) (.t 60) (.t 63))),none,0⟩,
⟨(some 0),(.q (.mv (.t 59))),none,0⟩,
⟨(some 1),(.q (.mv (.t 64))),none,0⟩]))))))))))
(.seq (.reg [⟨(some 65),(.q (.mv (.t 4))),none,0⟩,
⟨(some 66),(.q (.mv (.t 5))),none,0⟩,
⟨(some 67),(.q (.mv (.t 6))),none,0⟩,
⟨(some 68),(.q (.mv (.t 7))),none,0⟩,
⟨(some 4),(.q (.mv (.t 65))),none,0⟩,
⟨(some 5),(.q (.mv (.t 66))),none,0⟩,
⟨(some 6),(.q (.mv (.t 67))),none,0⟩,
⟨(some 7),(.q (.mv (.t 68))),none,0⟩])
.ret))))⟩
theorem row223 : Row Tryz.prog (223, a223) := ⟨Tryz.f223, Tryz.func223, by kernel_rfl⟩
noncomputable def a224 : AFn :=
⟨30,[(.t 4),(.t 5)],(.seq (.reg [⟨(some 4),(.q (.mv (.c (.int .i64 (.ofNat 0))))),none,0⟩,
⟨(some 5),(.q (.mv (.c (.int .i64 (.ofNat 0))))),none,0⟩])
(.seq (.reg [⟨(some 9),(.q (.mv (.t 0))),none,0⟩,
⟨(some 10),(.q (.lenSl (.t 9))),none,0⟩,
⟨(some 6),(.a (.alloc 3 [(.int .i64 (.ofNat 0))])),none,0⟩,
⟨none,(.x (.st 1 (.t 6) (.t 10))),none,0⟩])
(.seq (.reg [⟨(some 7),(.a (.alloc 189 [(.int .u64 (.ofNat 0))])),none,0⟩,
⟨none,(.x (.st 1 (.t 7) (.c (.int .u64 (.ofNat 1))))),none,0⟩])
(.seq (.block 0 (.loop (.seq (.seq (.drw [⟨(some 11),(.q (.mv (.t 0))),none,0⟩,
⟨(some 12),(.q (.ld false 1 (.t 6))),none,0⟩,
⟨(some 13),(.q (.bin .sub (.p .int) (.t 12) (.c (.int .i64 (.ofNat 1))))),none,2⟩,
⟨(some 14),(.q (.iaddr (.slice 1) (.t 11) (.t 13))),none,7⟩,
⟨(some 15),(.q (.ld false 1 (.t 14))),none,15⟩,
⟨(some 16),(.q (.conv (.int .u64) (.t 15))),none,31⟩,
⟨(some 17),(.q (.ld false 1 (.t 7))),none,0⟩,
⟨(some 18),(.q (.bin .mul (.p .int) (.t 16) (.t 17))),none,127⟩,
⟨(some 19),(.q (.bin .mul (.p .int) (.t 18) (.c (.int .u64 (.ofNat 10))))),none,255⟩,
⟨(some 20),(.q (.bin .lss (.p .int) (.t 19) (.c (.int .u64 (.ofNat 1000000000))))),none,511⟩])
(.cond (.t 20) .skip (.exit 0)))
(.block 1 (.reg [⟨(some 21),(.q (.ld false 1 (.t 7))),none,0⟩,
⟨(some 22),(.q (.bin .mul (.p .int) (.t 21) (.c (.int .u64 (.ofNat 10))))),none,0⟩,
⟨none,(.x (.st 1 (.t 7) (.t 22))),none,0⟩])))))
(.seq (.reg [⟨(some 23),(.q (.mkFunc 253 [] [(.t 6),(.t 7)])),none,0⟩,
⟨(some 8),(.q (.mv (.t 23))),none,0⟩])
(.seq (.reg [⟨(some 24),(.q (.mv (.t 8))),none,0⟩,
⟨(some 25),(.q (.mv (.t 0))),none,0⟩,
⟨(some 26),(.x (.call (.t 24) [(.t 25)])),none,0⟩,
⟨(some 27),(.q (.mv (.t 8))),none,0⟩,
⟨(some 28),(.q (.mv (.t 1))),none,0⟩,
⟨(some 29),(.x (.call (.t 27) [(.t 28)])),none,0⟩,
⟨(some 4),(.q (.mv (.t 26))),none,0⟩,
⟨(some 5),(.q (.mv (.t 29))),none,0⟩])
.ret))))))⟩
theorem row224 : Row Tryz.prog (224, a224) := ⟨Tryz.f224, Tryz.func224, by kernel_rfl⟩
noncomputable def a225 : AFn :=
⟨93,[(.t 4),(.t 5)],(.seq (.reg [⟨(some 4),(.q (.mv (.c .nilsl))),none,0⟩,
⟨(some 5),(.q (.mv (.c .nilsl))),none,0⟩])
(.seq (.seq (.reg [⟨(some 13),(.q (.mv (.t 0))),none,0⟩,
⟨(some 14),(.q (.mv (.t 1))),none,0⟩,
⟨(some 15),(.x (.call (.c (.fn 222 [] [])) [(.t 13),(.t 14)])),none,0⟩,
⟨(some 16),(.q (.bin .lss (.p .int) (.t 15) (.c (.int .i64 (.ofNat 0))))),none,0⟩])
(.cond (.t 16) (.seq (.reg [⟨(some 17),(.q (.mv (.t 0))),none,0⟩,
⟨(some 18),(.x (.call (.c (.fn 176 [] [])) [(.t 17)])),none,0⟩,
⟨(some 4),(.q (.mv (.c .nilsl))),none,0⟩,
⟨(some 5),(.q (.mv (.t 18))),none,0⟩])
.ret) .skip))
(.seq (.seq (.reg [⟨(some 19),(.q (.mv (.t 1))),none,0⟩,
⟨(some 20),(.q (.lenSl (.t 19))),none,0⟩,
⟨(some 21),(.q (.bin .eql (.p .int) (.t 20) (.c (.int .i64 (.ofNat 1))))),none,0⟩])
(.cond (.t 21) (.seq (.reg [⟨(some 23),(.q (.mv (.t 0))),none,0⟩,
⟨(some 24),(.q (.mv (.t 1))),none,0⟩,
⟨(some 25),(.q (.iaddr (.slice 1) (.t 24) (.c (.int .i64 (.ofNat 0))))),none,0⟩,
⟨(some 26),(.q (.ld false 1 (.t 25))),none,0⟩,
⟨(some 27),(.x (.call (.c (.fn 255 [] [])) [(.t 23),(.t 26)])),none,0⟩,
⟨(some 22),(.q (.mv (.t 27))),none,0⟩,
⟨(some 28),(.q (.extract (.t 22) 0)),none,0⟩,
⟨(some 29),(.q (.extract (.t 22) 1)),none,0⟩,
⟨(some 6),(.q (.mv (.t 28))),none,0⟩,
⟨(some 7),(.q (.mv (.t 29))),none,0⟩])
(.seq (.reg [⟨(some 30),(.q (.mv (.t 6))),none,0⟩,
⟨(some 31),(.q (.mv (.t 7))),none,0⟩,
⟨(some 32),(.q (.conv (.int .u64) (.t 31))),none,0⟩,
⟨(some 33),(.x (.call (.c (.fn 131 [] [])) [(.t 32)])),none,0⟩,
⟨(some 4),(.q (.mv (.t 30))),none,0⟩,
⟨(some 5),(.q (.mv (.t 33))),none,0⟩])
.ret)) .skip))
(.seq (.reg [⟨(some 34),(.q (.mv (.t 1))),none,0⟩,
⟨(some 35),(.q (.lenSl (.t 34))),none,0⟩,
⟨(some 8),(.q (.mv (.t 35))),none,0⟩])
(.seq (.reg [⟨(some 36),(.q (.mv (.t 1))),none,0⟩,
⟨(some 37),(.q (.mv (.t 8))),none,0⟩,
⟨(some 38),(.q (.bin .sub (.p .int) (.t 37) (.c (.int .i64 (.ofNat 1))))),none,0⟩,
⟨(some 39),(.q (.iaddr (.slice 1) (.t 36) (.t 38))),none,0⟩,
⟨(some 40),(.q (.ld false 1 (.t 39))),none,0⟩,
⟨(some 41),(.q (.conv (.int .u64) (.t 40))),none,0⟩,
⟨(some 42),(.q (.bin .add (.p .int) (.t 41) (.c (.int .u64 (.ofNat 1))))),none,0⟩,
⟨(some 43),(.q (.bin .quo (.p .int) (.c (.int .u64 (.ofNat 1000000000))) (.t 42))),none,0⟩,
⟨(some 9),(.q (.mv (.t 43))),none,0⟩])
(.seq (.reg [⟨(some 44),(.q (.mv (.t 0))),none,0⟩,
⟨(some 45),(.q (.mv (.t 9))),none,0⟩,
⟨(some 46),(.q (.mv (.t 0))),none,0⟩,
⟨(some 47),(.q (.lenSl (.t 46))),none,0⟩,
⟨(some 48),(.q (.bin .add (.p .int) (.t 47) (.c (.int .i64 (.ofNat 1))))),none,0⟩,
⟨(some 49),(.x (.call (.c (.fn 256 [] [])) [(.t 44),(.t 45),(.t 48)])),none,0⟩,
⟨(some 10),(.q (.mv (.t 49))),none,0⟩])
(.seq (.reg [⟨(some 50),(.q (.mv (.t 1))),none,0⟩,
⟨(some 51),(.q (.mv (.t 9))),none,0⟩,
⟨(some 52),(.q (.mv (.t 8))),none,0⟩,
⟨(some 53),(.x (.call (.c (.fn 256 [] [])) [(.t 50),(.t 51),(.t 52)])),none,0⟩,
⟨(some 11),(.q (.mv (.t 53))),none,0⟩])
(.seq (.reg [⟨(some 54),(.q (.mv (.t 0))),none,0⟩,
⟨(some 55),(.q (.lenSl (.t 54))),none,0⟩,
⟨(some 56),(.q (.mv (.t 8))),none,0⟩,
⟨(some 57),(.q (.bin .sub (.p .int) (.t 55) (.t 56))),none,0⟩,
⟨(some 58),(.q (.bin .add (.p .int) (.t 57) (.c (.int .i64 (.ofNat 1))))),none,0⟩,
⟨(some 59),(.a (.mkSlice 149 1 4 [(.int .u32 (.ofNat 0))] (.t 58) (.t 58))),none,0⟩,
⟨(some 4),(.q (.mv (.t 59))),none,0⟩])
(.seq (.seq (.reg [⟨(some 60),(.q (.mv (.t 0))),none,0⟩,
⟨(some 61),(.q (.lenSl (.t 60))),none,0⟩,
⟨(some 62),(.q (.mv (.t 8))),none,0⟩,
⟨(some 63),(.q (.bin .sub (.p .int) (.t 61) (.t 62))),none,0⟩,
⟨(some 12),(.q (.mv (.t 63))),none,0⟩])
(.block 0 (.loop (.seq (.seq (.reg [⟨(some 64),(.q (.mv (.t 12))),none,0⟩,
⟨(some 65),(.q (.bin .geq (.p .int) (.t 64) (.c (.int .i64 (.ofNat 0))))),none,0⟩])
(.cond (.t 65) .skip (.exit 0)))
(.seq (.block 1 (.reg [⟨(some 68),(.q (.mv (.t 4))),none,0⟩,
⟨(some 69),(.q (.mv (.t 12))),none,0⟩,
⟨(some 70),(.q (.mv (.t 10))),none,0⟩,
⟨(some 71),(.q (.mv (.t 12))),none,0⟩,
⟨(some 72),(.q (.mv (.t 12))),none,0⟩,
⟨(some 73),(.q (.mv (.t 8))),none,0⟩,
⟨(some 74),(.q (.bin .add (.p .int) (.t 72) (.t 73))),none,0⟩,
⟨(some 75),(.q (.bin .add (.p .int) (.t 74) (.c (.int .i64 (.ofNat 1))))),none,0⟩,
⟨(some 76),(.q (.slc (.slice 1) (.t 70) (some (.t 71)) (some (.t 75)) none)),none,0⟩,
⟨(some 77),(.q (.mv (.t 11))),none,0⟩,
⟨(some 78),(.x (.call (.c (.fn 257 [] [])) [(.t 76),(.t 77)])),none,0⟩,
⟨(some 79),(.q (.iaddr (.slice 1) (.t 68) (.t 69))),none,0⟩,
⟨none,(.x (.st 1 (.t 79) (.t 78))),none,0⟩]))
(.reg [⟨(some 66),(.q (.mv (.t 12))),none,0⟩,
⟨(some 67),(.q (.bin .sub (.p .int) (.t 66) (.c (.int .i64 (.ofNat 1))))),none,0⟩,
⟨(some 12),(.q (.mv (.t 67))),none,0⟩]))))))
(.seq (.reg [⟨(some 81),(.q (.mv (.t 10))),none,0⟩,
⟨(some 82),(.q (.mv (.t 8))),none,0⟩,
⟨(some 83),(.q (.slc (.slice 1) (.t 81) none (some (.t 82)) none)),none,0⟩,
⟨(some 84),(.x (.call (.c (.fn 258 [] [])) [(.t 83)])),none,0⟩,
⟨(some 85),(.q (.mv (.t 9))),none,0⟩,
⟨(some 86),(.q (.conv (.int .u32) (.t 85))),none,0⟩,
⟨(some 87),(.x (.call (.c (.fn 255 [] [])) [(.t 84),(.t 86)])),none,0⟩,
⟨(some 80),(.q (.mv (.t 87))),none,0⟩,
⟨(some 88),(.q (.extract (.t 80) 0)),none,0⟩,
⟨(some 89),(.q (.extract (.t 80) 1)),none,0⟩,
⟨(some 5),(.q (.mv (.t 88))),none,0⟩])
(.seq (.reg [⟨(some 90),(.q (.mv (.t 4))),none,0⟩,
⟨(some 91),(.x (.call (.c (.fn 258 [] [])) [(.t 90)])),none,0⟩,
⟨(some 92),(.q (.mv (.t 5))),none,0⟩,
⟨(some 4),(.q (.mv (.t 91))),none,0⟩,
⟨(some 5),(.q (.mv (.t 92))),none,0⟩])
.ret)))))))))))⟩
theorem row225 : Row Tryz.prog (225, a225) := ⟨Tryz.f225, Tryz.func225, by kernel_rfl⟩
end Go.Proofs.YtopemogpgppjlaaGreatDoor.reduceKnown
