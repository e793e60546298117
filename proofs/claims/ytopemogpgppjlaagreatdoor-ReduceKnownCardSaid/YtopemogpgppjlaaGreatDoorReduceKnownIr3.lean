/- The functions that ReduceKnown reaches, as data of the evaluator (part 3), written by program; each is shown to be the compiler's result on the loaded function. -/
import Derived.Test.YtopemogpgppjlaaGreatDoorProg
import Derived.Test.YtopemogpgppjlaaGreatDoorEv7
import Derived.KernelRfl
namespace Go.Proofs.YtopemogpgppjlaaGreatDoor.reduceKnown
open Go.Ev
set_option maxRecDepth 100000
noncomputable def a226 : AFn :=
⟨63,[(.t 8)],(.seq (.reg [⟨(some 8),(.q (.mv (.c .nilsl))),none,0⟩])
(.seq (.reg [⟨(some 13),(.q (.mv (.t 0))),none,0⟩,
⟨(some 14),(.q (.lenSl (.t 13))),none,0⟩,
⟨(some 15),(.a (.mkSlice 149 1 4 [(.int .u32 (.ofNat 0))] (.t 14) (.t 14))),none,0⟩,
⟨(some 9),(.q (.mv (.t 15))),none,0⟩])
(.seq (.reg [⟨(some 10),(.q (.mv (.c (.int .i64 (.ofNat 0))))),none,0⟩])
(.seq (.seq (.reg [⟨(some 16),(.q (.mv (.t 0))),none,0⟩,
⟨(some 17),(.q (.lenSl (.t 16))),none,0⟩,
⟨(some 18),(.q (.mv (.c (.int .i64 (.ofNat 0))))),none,0⟩])
(.block 0 (.loop (.seq (.reg [⟨(some 19),(.q (.bin .lss (.p .int) (.t 18) (.t 17))),none,0⟩])
(.seq (.cond (.t 19) .skip (.exit 0))
(.seq (.block 1 (.seq (.reg [⟨(some 20),(.q (.mv (.t 18))),none,0⟩,
⟨(some 11),(.q (.mv (.t 20))),none,0⟩])
(.seq (.reg [⟨(some 21),(.q (.mv (.t 2))),none,0⟩,
⟨(some 22),(.q (.mv (.t 0))),none,0⟩,
⟨(some 23),(.q (.mv (.t 11))),none,0⟩,
⟨(some 24),(.q (.iaddr (.slice 1) (.t 22) (.t 23))),none,0⟩,
⟨(some 25),(.q (.ld false 1 (.t 24))),none,0⟩,
⟨(some 26),(.q (.conv (.int .i64) (.t 25))),none,0⟩,
⟨(some 27),(.q (.bin .mul (.p .int) (.t 21) (.t 26))),none,0⟩,
⟨(some 28),(.q (.mv (.t 10))),none,0⟩,
⟨(some 29),(.q (.bin .add (.p .int) (.t 27) (.t 28))),none,0⟩,
⟨(some 12),(.q (.mv (.t 29))),none,0⟩])
(.seq (.seq (.reg [⟨(some 30),(.q (.mv (.t 11))),none,0⟩,
⟨(some 31),(.q (.mv (.t 1))),none,0⟩,
⟨(some 32),(.q (.lenSl (.t 31))),none,0⟩,
⟨(some 33),(.q (.bin .lss (.p .int) (.t 30) (.t 32))),none,0⟩])
(.cond (.t 33) (.reg [⟨(some 34),(.q (.mv (.t 12))),none,0⟩,
⟨(some 35),(.q (.mv (.t 3))),none,0⟩,
⟨(some 36),(.q (.mv (.t 1))),none,0⟩,
⟨(some 37),(.q (.mv (.t 11))),none,0⟩,
⟨(some 38),(.q (.iaddr (.slice 1) (.t 36) (.t 37))),none,0⟩,
⟨(some 39),(.q (.ld false 1 (.t 38))),none,0⟩,
⟨(some 40),(.q (.conv (.int .i64) (.t 39))),none,0⟩,
⟨(some 41),(.q (.bin .mul (.p .int) (.t 35) (.t 40))),none,0⟩,
⟨(some 42),(.q (.bin .add (.p .int) (.t 34) (.t 41))),none,0⟩,
⟨(some 12),(.q (.mv (.t 42))),none,0⟩]) .skip))
(.seq (.reg [⟨(some 43),(.q (.mv (.t 12))),none,0⟩,
⟨(some 44),(.q (.bin .quo (.p .int) (.t 43) (.c (.int .i64 (.ofNat 1000000000))))),none,0⟩,
⟨(some 10),(.q (.mv (.t 44))),none,0⟩])
(.seq (.reg [⟨(some 45),(.q (.mv (.t 12))),none,0⟩,
⟨(some 46),(.q (.mv (.t 10))),none,0⟩,
⟨(some 47),(.q (.bin .mul (.p .int) (.t 46) (.c (.int .i64 (.ofNat 1000000000))))),none,0⟩,
⟨(some 48),(.q (.bin .sub (.p .int) (.t 45) (.t 47))),none,0⟩,
⟨(some 12),(.q (.mv (.t 48))),none,0⟩])
(.seq (.seq (.reg [⟨(some 49),(.q (.mv (.t 12))),none,0⟩,
⟨(some 50),(.q (.bin .lss (.p .int) (.t 49) (.c (.int .i64 (.ofNat 0))))),none,0⟩])
(.cond (.t 50) (.seq (.reg [⟨(some 51),(.q (.mv (.t 12))),none,0⟩,
⟨(some 52),(.q (.bin .add (.p .int) (.t 51) (.c (.int .i64 (.ofNat 1000000000))))),none,0⟩,
⟨(some 12),(.q (.mv (.t 52))),none,0⟩])
(.reg [⟨(some 53),(.q (.mv (.t 10))),none,0⟩,
⟨(some 54),(.q (.bin .sub (.p .int) (.t 53) (.c (.int .i64 (.ofNat 1))))),none,0⟩,
⟨(some 10),(.q (.mv (.t 54))),none,0⟩])) .skip))
(.reg [⟨(some 55),(.q (.mv (.t 9))),none,0⟩,
⟨(some 56),(.q (.mv (.t 11))),none,0⟩,
⟨(some 57),(.q (.mv (.t 12))),none,0⟩,
⟨(some 58),(.q (.conv (.int .u32) (.t 57))),none,0⟩,
⟨(some 59),(.q (.iaddr (.slice 1) (.t 55) (.t 56))),none,0⟩,
⟨none,(.x (.st 1 (.t 59) (.t 58))),none,0⟩]))))))))
(.reg [⟨(some 60),(.q (.bin .add (.p .int) (.t 18) (.c (.int .i64 (.ofNat 1))))),none,0⟩,
⟨(some 18),(.q (.mv (.t 60))),none,0⟩])))))))
(.seq (.reg [⟨(some 61),(.q (.mv (.t 9))),none,0⟩,
⟨(some 62),(.x (.call (.c (.fn 258 [] [])) [(.t 61)])),none,0⟩,
⟨(some 8),(.q (.mv (.t 62))),none,0⟩])
.ret)))))⟩
theorem row226 : Row Tryz.prog (226, a226) := ⟨Tryz.f226, Tryz.func226, by kernel_rfl⟩
noncomputable def a233 : AFn :=
⟨16,[],(.seq (.reg [⟨(some 5),(.q (.ld false 1 (.t 1))),none,0⟩,
⟨(some 6),(.q (.lenSl (.t 5))),none,0⟩,
⟨(some 7),(.q (.mv (.c (.int .i64 (.ofNat 0))))),none,0⟩])
(.block 0 (.loop (.seq (.reg [⟨(some 8),(.q (.bin .lss (.p .int) (.t 7) (.t 6))),none,0⟩])
(.seq (.cond (.t 8) .skip (.exit 0))
(.seq (.block 1 (.seq (.reg [⟨(some 9),(.q (.iaddr (.slice 1) (.t 5) (.t 7))),none,0⟩,
⟨(some 10),(.q (.ld false 1 (.t 9))),none,0⟩,
⟨(some 4),(.q (.mv (.t 10))),none,0⟩])
(.seq (.reg [⟨(some 11),(.q (.mv (.t 0))),none,0⟩,
⟨(some 12),(.q (.mv (.t 4))),none,0⟩,
⟨(some 13),(.x (.call (.t 11) [(.t 12)])),none,0⟩,
⟨(some 14),(.q (.un .not (.t 13))),none,0⟩])
(.cond (.t 14) .ret .skip))))
(.reg [⟨(some 15),(.q (.bin .add (.p .int) (.t 7) (.c (.int .i64 (.ofNat 1))))),none,0⟩,
⟨(some 7),(.q (.mv (.t 15))),none,0⟩])))))))⟩
theorem row233 : Row Tryz.prog (233, a233) := ⟨Tryz.f233, Tryz.func233, by kernel_rfl⟩
noncomputable def a234 : AFn :=
⟨10,[(.t 2)],(.seq (.reg [⟨(some 2),(.q (.mv (.c (.bool false)))),none,0⟩])
(.seq (.reg [⟨(some 3),(.q (.mv (.t 0))),none,0⟩,
⟨(some 4),(.q (.bin .lss (.p .int) (.t 3) (.c (.int .i64 (.ofNat 2147483648))))),none,0⟩,
⟨(some 5),(.q (.mv (.t 4))),none,0⟩,
⟨(some 6),(.q (.mv (.t 0))),(some (5,true)),0⟩,
⟨(some 7),(.q (.un .neg (.t 6))),(some (5,true)),0⟩,
⟨(some 8),(.q (.bin .lss (.p .int) (.t 7) (.c (.int .i64 (.ofNat 2147483648))))),(some (5,true)),0⟩,
⟨(some 9),(.q (.pick (.t 5) (.t 8) (.c (.bool false)))),none,0⟩,
⟨(some 2),(.q (.mv (.t 9))),none,0⟩])
.ret))⟩
theorem row234 : Row Tryz.prog (234, a234) := ⟨Tryz.f234, Tryz.func234, by kernel_rfl⟩
noncomputable def a235 : AFn :=
⟨40,[(.t 4),(.t 5)],(.seq (.reg [⟨(some 4),(.q (.mv (.c .nilsl))),none,0⟩,
⟨(some 5),(.q (.mv (.c .nilsl))),none,0⟩])
(.seq (.reg [⟨(some 8),(.q (.mv (.t 0))),none,0⟩,
⟨(some 9),(.q (.lenSl (.t 8))),none,0⟩,
⟨(some 10),(.a (.mkSlice 149 1 4 [(.int .u32 (.ofNat 0))] (.t 9) (.t 9))),none,0⟩,
⟨(some 4),(.q (.mv (.t 10))),none,0⟩])
(.seq (.reg [⟨(some 6),(.q (.mv (.c (.int .u64 (.ofNat 0))))),none,0⟩])
(.seq (.seq (.reg [⟨(some 11),(.q (.mv (.t 0))),none,0⟩,
⟨(some 12),(.q (.lenSl (.t 11))),none,0⟩,
⟨(some 13),(.q (.bin .sub (.p .int) (.t 12) (.c (.int .i64 (.ofNat 1))))),none,0⟩,
⟨(some 7),(.q (.mv (.t 13))),none,0⟩])
(.block 0 (.loop (.seq (.seq (.reg [⟨(some 14),(.q (.mv (.t 7))),none,0⟩,
⟨(some 15),(.q (.bin .geq (.p .int) (.t 14) (.c (.int .i64 (.ofNat 0))))),none,0⟩])
(.cond (.t 15) .skip (.exit 0)))
(.seq (.block 1 (.seq (.reg [⟨(some 18),(.q (.mv (.t 6))),none,0⟩,
⟨(some 19),(.q (.bin .mul (.p .int) (.t 18) (.c (.int .u64 (.ofNat 1000000000))))),none,0⟩,
⟨(some 20),(.q (.mv (.t 0))),none,0⟩,
⟨(some 21),(.q (.mv (.t 7))),none,0⟩,
⟨(some 22),(.q (.iaddr (.slice 1) (.t 20) (.t 21))),none,0⟩,
⟨(some 23),(.q (.ld false 1 (.t 22))),none,0⟩,
⟨(some 24),(.q (.conv (.int .u64) (.t 23))),none,0⟩,
⟨(some 25),(.q (.bin .add (.p .int) (.t 19) (.t 24))),none,0⟩,
⟨(some 6),(.q (.mv (.t 25))),none,0⟩])
(.seq (.reg [⟨(some 26),(.q (.mv (.t 4))),none,0⟩,
⟨(some 27),(.q (.mv (.t 7))),none,0⟩,
⟨(some 28),(.q (.mv (.t 6))),none,0⟩,
⟨(some 29),(.q (.mv (.t 1))),none,0⟩,
⟨(some 30),(.q (.bin .quo (.p .int) (.t 28) (.t 29))),none,0⟩,
⟨(some 31),(.q (.conv (.int .u32) (.t 30))),none,0⟩,
⟨(some 32),(.q (.iaddr (.slice 1) (.t 26) (.t 27))),none,0⟩,
⟨none,(.x (.st 1 (.t 32) (.t 31))),none,0⟩])
(.reg [⟨(some 33),(.q (.mv (.t 6))),none,0⟩,
⟨(some 34),(.q (.mv (.t 1))),none,0⟩,
⟨(some 35),(.q (.bin .rem (.p .int) (.t 33) (.t 34))),none,0⟩,
⟨(some 6),(.q (.mv (.t 35))),none,0⟩]))))
(.reg [⟨(some 16),(.q (.mv (.t 7))),none,0⟩,
⟨(some 17),(.q (.bin .sub (.p .int) (.t 16) (.c (.int .i64 (.ofNat 1))))),none,0⟩,
⟨(some 7),(.q (.mv (.t 17))),none,0⟩]))))))
(.seq (.reg [⟨(some 36),(.q (.mv (.t 4))),none,0⟩,
⟨(some 37),(.x (.call (.c (.fn 190 [] [])) [(.t 36)])),none,0⟩,
⟨(some 38),(.q (.mv (.t 6))),none,0⟩,
⟨(some 39),(.x (.call (.c (.fn 149 [] [])) [(.t 38)])),none,0⟩,
⟨(some 4),(.q (.mv (.t 37))),none,0⟩,
⟨(some 5),(.q (.mv (.t 39))),none,0⟩])
.ret)))))⟩
theorem row235 : Row Tryz.prog (235, a235) := ⟨Tryz.f235, Tryz.func235, by kernel_rfl⟩
noncomputable def a236 : AFn :=
⟨34,[(.t 6)],(.seq (.reg [⟨(some 6),(.q (.mv (.c .nilsl))),none,0⟩])
(.seq (.reg [⟨(some 10),(.q (.mv (.t 2))),none,0⟩,
⟨(some 11),(.a (.mkSlice 149 1 4 [(.int .u32 (.ofNat 0))] (.t 10) (.t 10))),none,0⟩,
⟨(some 7),(.q (.mv (.t 11))),none,0⟩])
(.seq (.reg [⟨(some 8),(.q (.mv (.c (.int .u64 (.ofNat 0))))),none,0⟩])
(.seq (.seq (.reg [⟨(some 12),(.q (.mv (.t 7))),none,0⟩,
⟨(some 13),(.q (.lenSl (.t 12))),none,0⟩,
⟨(some 14),(.q (.mv (.c (.int .i64 (.ofNat 0))))),none,0⟩])
(.block 0 (.loop (.seq (.reg [⟨(some 15),(.q (.bin .lss (.p .int) (.t 14) (.t 13))),none,0⟩])
(.seq (.cond (.t 15) .skip (.exit 0))
(.seq (.block 1 (.seq (.reg [⟨(some 16),(.q (.mv (.t 14))),none,0⟩,
⟨(some 9),(.q (.mv (.t 16))),none,0⟩])
(.seq (.reg [⟨(some 17),(.q (.mv (.t 8))),none,0⟩,
⟨(some 18),(.q (.mv (.t 0))),none,0⟩,
⟨(some 19),(.q (.mv (.t 9))),none,0⟩,
⟨(some 20),(.x (.call (.c (.fn 191 [] [])) [(.t 18),(.t 19)])),none,0⟩,
⟨(some 21),(.q (.mv (.t 1))),none,0⟩,
⟨(some 22),(.q (.bin .mul (.p .int) (.t 20) (.t 21))),none,0⟩,
⟨(some 23),(.q (.bin .add (.p .int) (.t 17) (.t 22))),none,0⟩,
⟨(some 8),(.q (.mv (.t 23))),none,0⟩])
(.seq (.reg [⟨(some 24),(.q (.mv (.t 7))),none,0⟩,
⟨(some 25),(.q (.mv (.t 9))),none,0⟩,
⟨(some 26),(.q (.mv (.t 8))),none,0⟩,
⟨(some 27),(.q (.bin .rem (.p .int) (.t 26) (.c (.int .u64 (.ofNat 1000000000))))),none,0⟩,
⟨(some 28),(.q (.conv (.int .u32) (.t 27))),none,0⟩,
⟨(some 29),(.q (.iaddr (.slice 1) (.t 24) (.t 25))),none,0⟩,
⟨none,(.x (.st 1 (.t 29) (.t 28))),none,0⟩])
(.reg [⟨(some 30),(.q (.mv (.t 8))),none,0⟩,
⟨(some 31),(.q (.bin .quo (.p .int) (.t 30) (.c (.int .u64 (.ofNat 1000000000))))),none,0⟩,
⟨(some 8),(.q (.mv (.t 31))),none,0⟩])))))
(.reg [⟨(some 32),(.q (.bin .add (.p .int) (.t 14) (.c (.int .i64 (.ofNat 1))))),none,0⟩,
⟨(some 14),(.q (.mv (.t 32))),none,0⟩])))))))
(.seq (.reg [⟨(some 33),(.q (.mv (.t 7))),none,0⟩,
⟨(some 6),(.q (.mv (.t 33))),none,0⟩])
.ret)))))⟩
theorem row236 : Row Tryz.prog (236, a236) := ⟨Tryz.f236, Tryz.func236, by kernel_rfl⟩
noncomputable def a237 : AFn :=
⟨137,[(.t 4)],(.seq (.reg [⟨(some 4),(.q (.mv (.c (.int .u64 (.ofNat 0))))),none,0⟩])
(.seq (.reg [⟨(some 16),(.q (.mv (.t 1))),none,0⟩,
⟨(some 17),(.q (.lenSl (.t 16))),none,0⟩,
⟨(some 5),(.q (.mv (.t 17))),none,0⟩])
(.seq (.drw [⟨(some 18),(.q (.mv (.t 0))),none,0⟩,
⟨(some 19),(.q (.mv (.t 5))),none,0⟩,
⟨(some 20),(.q (.iaddr (.slice 1) (.t 18) (.t 19))),none,3⟩,
⟨(some 21),(.q (.ld false 1 (.t 20))),none,7⟩,
⟨(some 22),(.q (.conv (.int .u64) (.t 21))),none,15⟩,
⟨(some 23),(.q (.bin .mul (.p .int) (.t 22) (.c (.int .u64 (.ofNat 1000000000))))),none,31⟩,
⟨(some 24),(.q (.mv (.t 0))),none,0⟩,
⟨(some 25),(.q (.mv (.t 5))),none,0⟩,
⟨(some 26),(.q (.bin .sub (.p .int) (.t 25) (.c (.int .i64 (.ofNat 1))))),none,128⟩,
⟨(some 27),(.q (.iaddr (.slice 1) (.t 24) (.t 26))),none,448⟩,
⟨(some 28),(.q (.ld false 1 (.t 27))),none,960⟩,
⟨(some 29),(.q (.conv (.int .u64) (.t 28))),none,1984⟩,
⟨(some 30),(.q (.bin .add (.p .int) (.t 23) (.t 29))),none,4095⟩,
⟨(some 6),(.q (.mv (.t 30))),none,8191⟩])
(.seq (.reg [⟨(some 31),(.q (.mv (.t 1))),none,0⟩,
⟨(some 32),(.q (.mv (.t 5))),none,0⟩,
⟨(some 33),(.q (.bin .sub (.p .int) (.t 32) (.c (.int .i64 (.ofNat 1))))),none,0⟩,
⟨(some 34),(.q (.iaddr (.slice 1) (.t 31) (.t 33))),none,0⟩,
⟨(some 35),(.q (.ld false 1 (.t 34))),none,0⟩,
⟨(some 36),(.q (.conv (.int .u64) (.t 35))),none,0⟩,
⟨(some 7),(.q (.mv (.t 36))),none,0⟩])
(.seq (.drw [⟨(some 37),(.q (.mv (.t 6))),none,0⟩,
⟨(some 38),(.q (.mv (.t 7))),none,0⟩,
⟨(some 39),(.q (.bin .quo (.p .int) (.t 37) (.t 38))),none,3⟩,
⟨(some 40),(.q (.mv (.t 6))),none,0⟩,
⟨(some 41),(.q (.mv (.t 7))),none,0⟩,
⟨(some 42),(.q (.bin .rem (.p .int) (.t 40) (.t 41))),none,24⟩,
⟨(some 8),(.q (.mv (.t 39))),none,7⟩,
⟨(some 9),(.q (.mv (.t 42))),none,127⟩])
(.seq (.block 0 (.loop (.seq (.seq (.drw [⟨(some 43),(.q (.mv (.t 8))),none,0⟩,
⟨(some 44),(.q (.bin .geq (.p .int) (.t 43) (.c (.int .u64 (.ofNat 1000000000))))),none,1⟩,
⟨(some 45),(.q (.mv (.t 44))),none,3⟩,
⟨(some 46),(.q (.mv (.t 8))),(some (45,false)),7⟩,
⟨(some 47),(.q (.mv (.t 1))),(some (45,false)),7⟩,
⟨(some 48),(.q (.mv (.t 5))),(some (45,false)),7⟩,
⟨(some 49),(.q (.bin .sub (.p .int) (.t 48) (.c (.int .i64 (.ofNat 2))))),(some (45,false)),39⟩,
⟨(some 50),(.q (.iaddr (.slice 1) (.t 47) (.t 49))),(some (45,false)),119⟩,
⟨(some 51),(.q (.ld false 1 (.t 50))),(some (45,false)),247⟩,
⟨(some 52),(.q (.conv (.int .u64) (.t 51))),(some (45,false)),503⟩,
⟨(some 53),(.q (.bin .mul (.p .int) (.t 46) (.t 52))),(some (45,false)),1023⟩,
⟨(some 54),(.q (.mv (.t 9))),(some (45,false)),7⟩,
⟨(some 55),(.q (.bin .mul (.p .int) (.t 54) (.c (.int .u64 (.ofNat 1000000000))))),(some (45,false)),2055⟩,
⟨(some 56),(.q (.mv (.t 0))),(some (45,false)),7⟩,
⟨(some 57),(.q (.mv (.t 5))),(some (45,false)),7⟩,
⟨(some 58),(.q (.bin .sub (.p .int) (.t 57) (.c (.int .i64 (.ofNat 2))))),(some (45,false)),16391⟩,
⟨(some 59),(.q (.iaddr (.slice 1) (.t 56) (.t 58))),(some (45,false)),57351⟩,
⟨(some 60),(.q (.ld false 1 (.t 59))),(some (45,false)),122887⟩,
⟨(some 61),(.q (.conv (.int .u64) (.t 60))),(some (45,false)),253959⟩,
⟨(some 62),(.q (.bin .add (.p .int) (.t 55) (.t 61))),(some (45,false)),522247⟩,
⟨(some 63),(.q (.bin .gtr (.p .int) (.t 53) (.t 62))),(some (45,false)),1048575⟩,
⟨(some 64),(.q (.pick (.t 45) (.c (.bool true)) (.t 63))),none,2097151⟩])
(.cond (.t 64) .skip (.exit 0)))
(.block 1 (.seq (.reg [⟨(some 65),(.q (.mv (.t 8))),none,0⟩,
⟨(some 66),(.q (.bin .sub (.p .int) (.t 65) (.c (.int .u64 (.ofNat 1))))),none,0⟩,
⟨(some 8),(.q (.mv (.t 66))),none,0⟩])
(.seq (.reg [⟨(some 67),(.q (.mv (.t 9))),none,0⟩,
⟨(some 68),(.q (.mv (.t 7))),none,0⟩,
⟨(some 69),(.q (.bin .add (.p .int) (.t 67) (.t 68))),none,0⟩,
⟨(some 9),(.q (.mv (.t 69))),none,0⟩])
(.seq (.reg [⟨(some 70),(.q (.mv (.t 9))),none,0⟩,
⟨(some 71),(.q (.bin .geq (.p .int) (.t 70) (.c (.int .u64 (.ofNat 1000000000))))),none,0⟩])
(.cond (.t 71) (.exit 0) .skip))))))))
(.seq (.reg [⟨(some 10),(.q (.mv (.c (.int .u64 (.ofNat 0))))),none,0⟩,
⟨(some 11),(.q (.mv (.c (.int .u64 (.ofNat 0))))),none,0⟩])
(.seq (.seq (.reg [⟨(some 72),(.q (.mv (.t 5))),none,0⟩,
⟨(some 73),(.q (.bin .add (.p .int) (.t 72) (.c (.int .i64 (.ofNat 1))))),none,0⟩,
⟨(some 74),(.q (.mv (.c (.int .i64 (.ofNat 0))))),none,0⟩])
(.block 2 (.loop (.seq (.reg [⟨(some 75),(.q (.bin .lss (.p .int) (.t 74) (.t 73))),none,0⟩])
(.seq (.cond (.t 75) .skip (.exit 2))
(.seq (.block 3 (.seq (.reg [⟨(some 76),(.q (.mv (.t 74))),none,0⟩,
⟨(some 12),(.q (.mv (.t 76))),none,0⟩])
(.seq (.reg [⟨(some 77),(.q (.mv (.t 10))),none,0⟩,
⟨(some 78),(.q (.mv (.t 8))),none,0⟩,
⟨(some 79),(.q (.mv (.t 1))),none,0⟩,
⟨(some 80),(.q (.mv (.t 12))),none,0⟩,
⟨(some 81),(.x (.call (.c (.fn 191 [] [])) [(.t 79),(.t 80)])),none,0⟩,
⟨(some 82),(.q (.bin .mul (.p .int) (.t 78) (.t 81))),none,0⟩,
⟨(some 83),(.q (.bin .add (.p .int) (.t 77) (.t 82))),none,0⟩,
⟨(some 10),(.q (.mv (.t 83))),none,0⟩])
(.seq (.reg [⟨(some 84),(.q (.mv (.t 0))),none,0⟩,
⟨(some 85),(.q (.mv (.t 12))),none,0⟩,
⟨(some 86),(.q (.iaddr (.slice 1) (.t 84) (.t 85))),none,0⟩,
⟨(some 87),(.q (.ld false 1 (.t 86))),none,0⟩,
⟨(some 88),(.q (.conv (.int .u64) (.t 87))),none,0⟩,
⟨(some 89),(.q (.bin .add (.p .int) (.c (.int .u64 (.ofNat 2000000000))) (.t 88))),none,0⟩,
⟨(some 90),(.q (.mv (.t 10))),none,0⟩,
⟨(some 91),(.q (.bin .rem (.p .int) (.t 90) (.c (.int .u64 (.ofNat 1000000000))))),none,0⟩,
⟨(some 92),(.q (.bin .sub (.p .int) (.t 89) (.t 91))),none,0⟩,
⟨(some 93),(.q (.mv (.t 11))),none,0⟩,
⟨(some 94),(.q (.bin .sub (.p .int) (.t 92) (.t 93))),none,0⟩,
⟨(some 13),(.q (.mv (.t 94))),none,0⟩])
(.seq (.reg [⟨(some 95),(.q (.mv (.t 0))),none,0⟩,
⟨(some 96),(.q (.mv (.t 12))),none,0⟩,
⟨(some 97),(.q (.mv (.t 13))),none,0⟩,
⟨(some 98),(.q (.bin .rem (.p .int) (.t 97) (.c (.int .u64 (.ofNat 1000000000))))),none,0⟩,
⟨(some 99),(.q (.conv (.int .u32) (.t 98))),none,0⟩,
⟨(some 100),(.q (.iaddr (.slice 1) (.t 95) (.t 96))),none,0⟩,
⟨none,(.x (.st 1 (.t 100) (.t 99))),none,0⟩])
(.seq (.reg [⟨(some 101),(.q (.mv (.t 13))),none,0⟩,
⟨(some 102),(.q (.bin .quo (.p .int) (.t 101) (.c (.int .u64 (.ofNat 1000000000))))),none,0⟩,
⟨(some 103),(.q (.bin .sub (.p .int) (.c (.int .u64 (.ofNat 2))) (.t 102))),none,0⟩,
⟨(some 11),(.q (.mv (.t 103))),none,0⟩])
(.reg [⟨(some 104),(.q (.mv (.t 10))),none,0⟩,
⟨(some 105),(.q (.bin .quo (.p .int) (.t 104) (.c (.int .u64 (.ofNat 1000000000))))),none,0⟩,
⟨(some 10),(.q (.mv (.t 105))),none,0⟩])))))))
(.reg [⟨(some 106),(.q (.bin .add (.p .int) (.t 74) (.c (.int .i64 (.ofNat 1))))),none,0⟩,
⟨(some 74),(.q (.mv (.t 106))),none,0⟩])))))))
(.seq (.seq (.reg [⟨(some 107),(.q (.mv (.t 11))),none,0⟩,
⟨(some 108),(.q (.bin .eql (.p .int) (.t 107) (.c (.int .u64 (.ofNat 0))))),none,0⟩])
(.cond (.t 108) (.seq (.reg [⟨(some 109),(.q (.mv (.t 8))),none,0⟩,
⟨(some 4),(.q (.mv (.t 109))),none,0⟩])
.ret) .skip))
(.seq (.reg [⟨(some 14),(.q (.mv (.c (.int .u64 (.ofNat 0))))),none,0⟩])
(.seq (.seq (.reg [⟨(some 110),(.q (.mv (.t 5))),none,0⟩,
⟨(some 111),(.q (.bin .add (.p .int) (.t 110) (.c (.int .i64 (.ofNat 1))))),none,0⟩,
⟨(some 112),(.q (.mv (.c (.int .i64 (.ofNat 0))))),none,0⟩])
(.block 4 (.loop (.seq (.reg [⟨(some 113),(.q (.bin .lss (.p .int) (.t 112) (.t 111))),none,0⟩])
(.seq (.cond (.t 113) .skip (.exit 4))
(.seq (.block 5 (.seq (.reg [⟨(some 114),(.q (.mv (.t 112))),none,0⟩,
⟨(some 15),(.q (.mv (.t 114))),none,0⟩])
(.seq (.drw [⟨(some 115),(.q (.mv (.t 14))),none,0⟩,
⟨(some 116),(.q (.mv (.t 0))),none,0⟩,
⟨(some 117),(.q (.mv (.t 15))),none,0⟩,
⟨(some 118),(.q (.iaddr (.slice 1) (.t 116) (.t 117))),none,6⟩,
⟨(some 119),(.q (.ld false 1 (.t 118))),none,14⟩,
⟨(some 120),(.q (.conv (.int .u64) (.t 119))),none,30⟩,
⟨(some 121),(.q (.mv (.t 1))),none,0⟩,
⟨(some 122),(.q (.mv (.t 15))),none,0⟩,
⟨(some 123),(.x (.call (.c (.fn 191 [] [])) [(.t 121),(.t 122)])),none,192⟩,
⟨(some 124),(.q (.bin .add (.p .int) (.t 120) (.t 123))),none,510⟩,
⟨(some 125),(.q (.bin .add (.p .int) (.t 115) (.t 124))),none,1023⟩,
⟨(some 14),(.q (.mv (.t 125))),none,2047⟩])
(.seq (.reg [⟨(some 126),(.q (.mv (.t 0))),none,0⟩,
⟨(some 127),(.q (.mv (.t 15))),none,0⟩,
⟨(some 128),(.q (.mv (.t 14))),none,0⟩,
⟨(some 129),(.q (.bin .rem (.p .int) (.t 128) (.c (.int .u64 (.ofNat 1000000000))))),none,0⟩,
⟨(some 130),(.q (.conv (.int .u32) (.t 129))),none,0⟩,
⟨(some 131),(.q (.iaddr (.slice 1) (.t 126) (.t 127))),none,0⟩,
⟨none,(.x (.st 1 (.t 131) (.t 130))),none,0⟩])
(.reg [⟨(some 132),(.q (.mv (.t 14))),none,0⟩,
⟨(some 133),(.q (.bin .quo (.p .int) (.t 132) (.c (.int .u64 (.ofNat 1000000000))))),none,0⟩,
⟨(some 14),(.q (.mv (.t 133))),none,0⟩])))))
(.reg [⟨(some 134),(.q (.bin .add (.p .int) (.t 112) (.c (.int .i64 (.ofNat 1))))),none,0⟩,
⟨(some 112),(.q (.mv (.t 134))),none,0⟩])))))))
(.seq (.reg [⟨(some 135),(.q (.mv (.t 8))),none,0⟩,
⟨(some 136),(.q (.bin .sub (.p .int) (.t 135) (.c (.int .u64 (.ofNat 1))))),none,0⟩,
⟨(some 4),(.q (.mv (.t 136))),none,0⟩])
.ret))))))))))))⟩
theorem row237 : Row Tryz.prog (237, a237) := ⟨Tryz.f237, Tryz.func237, by kernel_rfl⟩
noncomputable def a238 : AFn :=
⟨10,[(.t 6)],(.seq (.reg [⟨(some 3),(.a (.box 3 (.t 0))),none,0⟩,
⟨(some 4),(.a (.box 3 (.t 1))),none,0⟩,
⟨(some 6),(.q (.mv (.c (.int .i64 (.ofNat 0))))),none,0⟩])
(.seq (.seq (.reg [⟨(some 7),(.q (.mv (.t 2))),none,0⟩,
⟨(some 8),(.q (.mkFunc 266 [] [(.t 3),(.t 4)])),none,0⟩,
⟨(some 9),(.x (.call (.c (.fn 265 [] [])) [(.t 7),(.t 8)])),none,0⟩])
(.cond (.t 9) (.seq (.reg [⟨(some 6),(.q (.mv (.c (.int .i64 (.ofNat 2))))),none,0⟩])
.ret) .skip))
(.seq (.reg [⟨(some 6),(.q (.mv (.c (.int .i64 (.ofNat 0))))),none,0⟩])
.ret)))⟩
theorem row238 : Row Tryz.prog (238, a238) := ⟨Tryz.f238, Tryz.func238, by kernel_rfl⟩
noncomputable def a239 : AFn :=
⟨19,[(.t 4)],(.seq (.reg [⟨(some 4),(.q (.mv (.c (.int .i64 (.ofNat 0))))),none,0⟩])
(.seq (.seq (.reg [⟨(some 6),(.q (.mv (.t 0))),none,0⟩,
⟨(some 7),(.q (.lenSl (.t 6))),none,0⟩,
⟨(some 8),(.q (.mv (.c (.int .i64 (.ofNat 0))))),none,0⟩])
(.block 0 (.loop (.seq (.reg [⟨(some 9),(.q (.bin .lss (.p .int) (.t 8) (.t 7))),none,0⟩])
(.seq (.cond (.t 9) .skip (.exit 0))
(.seq (.block 1 (.seq (.reg [⟨(some 10),(.q (.mv (.t 8))),none,0⟩,
⟨(some 5),(.q (.mv (.t 10))),none,0⟩])
(.seq (.reg [⟨(some 11),(.q (.mv (.t 1))),none,0⟩,
⟨(some 12),(.q (.mv (.t 0))),none,0⟩,
⟨(some 13),(.q (.mv (.t 5))),none,0⟩,
⟨(some 14),(.q (.iaddr (.slice 1) (.t 12) (.t 13))),none,0⟩,
⟨(some 15),(.q (.ld false 1 (.t 14))),none,0⟩,
⟨(some 16),(.q (.bin .eql (.p .int) (.t 11) (.t 15))),none,0⟩])
(.cond (.t 16) (.seq (.reg [⟨(some 17),(.q (.mv (.t 5))),none,0⟩,
⟨(some 4),(.q (.mv (.t 17))),none,0⟩])
.ret) .skip))))
(.reg [⟨(some 18),(.q (.bin .add (.p .int) (.t 8) (.c (.int .i64 (.ofNat 1))))),none,0⟩,
⟨(some 8),(.q (.mv (.t 18))),none,0⟩])))))))
(.seq (.reg [⟨(some 4),(.q (.mv (.c (.int .i64 (.negSucc 0))))),none,0⟩])
.ret)))⟩
theorem row239 : Row Tryz.prog (239, a239) := ⟨Tryz.f239, Tryz.func239, by kernel_rfl⟩
noncomputable def a245 : AFn :=
⟨6,[(.t 2)],(.seq (.reg [⟨(some 2),(.q (.mv (.c (.bool false)))),none,0⟩])
(.seq (.reg [⟨(some 3),(.q (.mv (.t 0))),none,0⟩,
⟨(some 4),(.q (.mv (.t 0))),none,0⟩,
⟨(some 5),(.q (.bin .neq (.p .int) (.t 3) (.t 4))),none,0⟩,
⟨(some 2),(.q (.mv (.t 5))),none,0⟩])
.ret))⟩
theorem row245 : Row Tryz.prog (245, a245) := ⟨Tryz.f245, Tryz.func245, by kernel_rfl⟩
noncomputable def a253 : AFn :=
⟨28,[(.t 4)],(.seq (.reg [⟨(some 3),(.a (.box 41 (.t 0))),none,0⟩,
⟨(some 4),(.q (.mv (.c (.int .i64 (.ofNat 0))))),none,0⟩])
(.seq (.reg [⟨(some 6),(.q (.mkFunc 254 [] [(.t 3)])),none,0⟩,
⟨(some 5),(.q (.mv (.t 6))),none,0⟩])
(.seq (.drw [⟨(some 7),(.q (.mv (.t 5))),none,0⟩,
⟨(some 8),(.q (.ld false 1 (.t 1))),none,0⟩,
⟨(some 9),(.q (.bin .sub (.p .int) (.t 8) (.c (.int .i64 (.ofNat 1))))),none,2⟩,
⟨(some 10),(.x (.call (.t 7) [(.t 9)])),none,7⟩,
⟨(some 11),(.q (.bin .mul (.p .int) (.t 10) (.c (.int .u64 (.ofNat 1000000000))))),none,15⟩,
⟨(some 12),(.q (.mv (.t 5))),none,0⟩,
⟨(some 13),(.q (.ld false 1 (.t 1))),none,0⟩,
⟨(some 14),(.q (.bin .sub (.p .int) (.t 13) (.c (.int .i64 (.ofNat 2))))),none,64⟩,
⟨(some 15),(.x (.call (.t 12) [(.t 14)])),none,239⟩,
⟨(some 16),(.q (.bin .add (.p .int) (.t 11) (.t 15))),none,511⟩,
⟨(some 17),(.q (.ld false 1 (.t 2))),none,0⟩,
⟨(some 18),(.q (.bin .mul (.p .int) (.t 16) (.t 17))),none,2047⟩,
⟨(some 19),(.q (.mv (.t 5))),none,0⟩,
⟨(some 20),(.q (.ld false 1 (.t 1))),none,0⟩,
⟨(some 21),(.q (.bin .sub (.p .int) (.t 20) (.c (.int .i64 (.ofNat 3))))),none,8192⟩,
⟨(some 22),(.x (.call (.t 19) [(.t 21)])),none,29167⟩,
⟨(some 23),(.q (.ld false 1 (.t 2))),none,0⟩,
⟨(some 24),(.q (.bin .mul (.p .int) (.t 22) (.t 23))),none,127471⟩,
⟨(some 25),(.q (.bin .quo (.p .int) (.t 24) (.c (.int .u64 (.ofNat 1000000000))))),none,258543⟩,
⟨(some 26),(.q (.bin .add (.p .int) (.t 18) (.t 25))),none,524287⟩,
⟨(some 27),(.q (.conv (.int .i64) (.t 26))),none,1048575⟩,
⟨(some 4),(.q (.mv (.t 27))),none,2097151⟩])
.ret)))⟩
theorem row253 : Row Tryz.prog (253, a253) := ⟨Tryz.f253, Tryz.func253, by kernel_rfl⟩
noncomputable def a254 : AFn :=
⟨13,[(.t 3)],(.seq (.reg [⟨(some 3),(.q (.mv (.c (.int .u64 (.ofNat 0))))),none,0⟩])
(.seq (.seq (.reg [⟨(some 4),(.q (.mv (.t 0))),none,0⟩,
⟨(some 5),(.q (.ld false 1 (.t 1))),none,0⟩,
⟨(some 6),(.q (.lenSl (.t 5))),none,0⟩,
⟨(some 7),(.q (.bin .lss (.p .int) (.t 4) (.t 6))),none,0⟩])
(.cond (.t 7) (.seq (.reg [⟨(some 8),(.q (.ld false 1 (.t 1))),none,0⟩,
⟨(some 9),(.q (.mv (.t 0))),none,0⟩,
⟨(some 10),(.q (.iaddr (.slice 1) (.t 8) (.t 9))),none,0⟩,
⟨(some 11),(.q (.ld false 1 (.t 10))),none,0⟩,
⟨(some 12),(.q (.conv (.int .u64) (.t 11))),none,0⟩,
⟨(some 3),(.q (.mv (.t 12))),none,0⟩])
.ret) .skip))
(.seq (.reg [⟨(some 3),(.q (.mv (.c (.int .u64 (.ofNat 0))))),none,0⟩])
.ret)))⟩
theorem row254 : Row Tryz.prog (254, a254) := ⟨Tryz.f254, Tryz.func254, by kernel_rfl⟩
noncomputable def a255 : AFn :=
⟨44,[(.t 4),(.t 5)],(.seq (.reg [⟨(some 4),(.q (.mv (.c .nilsl))),none,0⟩,
⟨(some 5),(.q (.mv (.c (.int .u32 (.ofNat 0))))),none,0⟩])
(.seq (.reg [⟨(some 10),(.q (.mv (.t 0))),none,0⟩,
⟨(some 11),(.q (.lenSl (.t 10))),none,0⟩,
⟨(some 12),(.a (.mkSlice 149 1 4 [(.int .u32 (.ofNat 0))] (.t 11) (.t 11))),none,0⟩,
⟨(some 6),(.q (.mv (.t 12))),none,0⟩])
(.seq (.reg [⟨(some 7),(.q (.mv (.c (.int .u64 (.ofNat 0))))),none,0⟩])
(.seq (.seq (.reg [⟨(some 13),(.q (.mv (.t 0))),none,0⟩,
⟨(some 14),(.q (.lenSl (.t 13))),none,0⟩,
⟨(some 15),(.q (.bin .sub (.p .int) (.t 14) (.c (.int .i64 (.ofNat 1))))),none,0⟩,
⟨(some 8),(.q (.mv (.t 15))),none,0⟩])
(.block 0 (.loop (.seq (.seq (.reg [⟨(some 16),(.q (.mv (.t 8))),none,0⟩,
⟨(some 17),(.q (.bin .geq (.p .int) (.t 16) (.c (.int .i64 (.ofNat 0))))),none,0⟩])
(.cond (.t 17) .skip (.exit 0)))
(.seq (.block 1 (.seq (.reg [⟨(some 20),(.q (.mv (.t 7))),none,0⟩,
⟨(some 21),(.q (.bin .mul (.p .int) (.t 20) (.c (.int .u64 (.ofNat 1000000000))))),none,0⟩,
⟨(some 22),(.q (.mv (.t 0))),none,0⟩,
⟨(some 23),(.q (.mv (.t 8))),none,0⟩,
⟨(some 24),(.q (.iaddr (.slice 1) (.t 22) (.t 23))),none,0⟩,
⟨(some 25),(.q (.ld false 1 (.t 24))),none,0⟩,
⟨(some 26),(.q (.conv (.int .u64) (.t 25))),none,0⟩,
⟨(some 27),(.q (.bin .add (.p .int) (.t 21) (.t 26))),none,0⟩,
⟨(some 9),(.q (.mv (.t 27))),none,0⟩])
(.seq (.reg [⟨(some 28),(.q (.mv (.t 6))),none,0⟩,
⟨(some 29),(.q (.mv (.t 8))),none,0⟩,
⟨(some 30),(.q (.mv (.t 9))),none,0⟩,
⟨(some 31),(.q (.mv (.t 1))),none,0⟩,
⟨(some 32),(.q (.conv (.int .u64) (.t 31))),none,0⟩,
⟨(some 33),(.q (.bin .quo (.p .int) (.t 30) (.t 32))),none,0⟩,
⟨(some 34),(.q (.conv (.int .u32) (.t 33))),none,0⟩,
⟨(some 35),(.q (.iaddr (.slice 1) (.t 28) (.t 29))),none,0⟩,
⟨none,(.x (.st 1 (.t 35) (.t 34))),none,0⟩])
(.reg [⟨(some 36),(.q (.mv (.t 9))),none,0⟩,
⟨(some 37),(.q (.mv (.t 1))),none,0⟩,
⟨(some 38),(.q (.conv (.int .u64) (.t 37))),none,0⟩,
⟨(some 39),(.q (.bin .rem (.p .int) (.t 36) (.t 38))),none,0⟩,
⟨(some 7),(.q (.mv (.t 39))),none,0⟩]))))
(.reg [⟨(some 18),(.q (.mv (.t 8))),none,0⟩,
⟨(some 19),(.q (.bin .sub (.p .int) (.t 18) (.c (.int .i64 (.ofNat 1))))),none,0⟩,
⟨(some 8),(.q (.mv (.t 19))),none,0⟩]))))))
(.seq (.reg [⟨(some 40),(.q (.mv (.t 6))),none,0⟩,
⟨(some 41),(.x (.call (.c (.fn 258 [] [])) [(.t 40)])),none,0⟩,
⟨(some 42),(.q (.mv (.t 7))),none,0⟩,
⟨(some 43),(.q (.conv (.int .u32) (.t 42))),none,0⟩,
⟨(some 4),(.q (.mv (.t 41))),none,0⟩,
⟨(some 5),(.q (.mv (.t 43))),none,0⟩])
.ret)))))⟩
theorem row255 : Row Tryz.prog (255, a255) := ⟨Tryz.f255, Tryz.func255, by kernel_rfl⟩
noncomputable def a256 : AFn :=
⟨40,[(.t 6)],(.seq (.reg [⟨(some 6),(.q (.mv (.c .nilsl))),none,0⟩])
(.seq (.reg [⟨(some 10),(.q (.mv (.t 2))),none,0⟩,
⟨(some 11),(.a (.mkSlice 149 1 4 [(.int .u32 (.ofNat 0))] (.t 10) (.t 10))),none,0⟩,
⟨(some 7),(.q (.mv (.t 11))),none,0⟩])
(.seq (.reg [⟨(some 8),(.q (.mv (.c (.int .u64 (.ofNat 0))))),none,0⟩])
(.seq (.seq (.reg [⟨(some 12),(.q (.mv (.t 7))),none,0⟩,
⟨(some 13),(.q (.lenSl (.t 12))),none,0⟩,
⟨(some 14),(.q (.mv (.c (.int .i64 (.ofNat 0))))),none,0⟩])
(.block 0 (.loop (.seq (.reg [⟨(some 15),(.q (.bin .lss (.p .int) (.t 14) (.t 13))),none,0⟩])
(.seq (.cond (.t 15) .skip (.exit 0))
(.seq (.block 1 (.seq (.reg [⟨(some 16),(.q (.mv (.t 14))),none,0⟩,
⟨(some 9),(.q (.mv (.t 16))),none,0⟩])
(.seq (.seq (.reg [⟨(some 17),(.q (.mv (.t 9))),none,0⟩,
⟨(some 18),(.q (.mv (.t 0))),none,0⟩,
⟨(some 19),(.q (.lenSl (.t 18))),none,0⟩,
⟨(some 20),(.q (.bin .lss (.p .int) (.t 17) (.t 19))),none,0⟩])
(.cond (.t 20) (.reg [⟨(some 21),(.q (.mv (.t 8))),none,0⟩,
⟨(some 22),(.q (.mv (.t 0))),none,0⟩,
⟨(some 23),(.q (.mv (.t 9))),none,0⟩,
⟨(some 24),(.q (.iaddr (.slice 1) (.t 22) (.t 23))),none,0⟩,
⟨(some 25),(.q (.ld false 1 (.t 24))),none,0⟩,
⟨(some 26),(.q (.conv (.int .u64) (.t 25))),none,0⟩,
⟨(some 27),(.q (.mv (.t 1))),none,0⟩,
⟨(some 28),(.q (.bin .mul (.p .int) (.t 26) (.t 27))),none,0⟩,
⟨(some 29),(.q (.bin .add (.p .int) (.t 21) (.t 28))),none,0⟩,
⟨(some 8),(.q (.mv (.t 29))),none,0⟩]) .skip))
(.seq (.reg [⟨(some 30),(.q (.mv (.t 7))),none,0⟩,
⟨(some 31),(.q (.mv (.t 9))),none,0⟩,
⟨(some 32),(.q (.mv (.t 8))),none,0⟩,
⟨(some 33),(.q (.bin .rem (.p .int) (.t 32) (.c (.int .u64 (.ofNat 1000000000))))),none,0⟩,
⟨(some 34),(.q (.conv (.int .u32) (.t 33))),none,0⟩,
⟨(some 35),(.q (.iaddr (.slice 1) (.t 30) (.t 31))),none,0⟩,
⟨none,(.x (.st 1 (.t 35) (.t 34))),none,0⟩])
(.reg [⟨(some 36),(.q (.mv (.t 8))),none,0⟩,
⟨(some 37),(.q (.bin .quo (.p .int) (.t 36) (.c (.int .u64 (.ofNat 1000000000))))),none,0⟩,
⟨(some 8),(.q (.mv (.t 37))),none,0⟩])))))
(.reg [⟨(some 38),(.q (.bin .add (.p .int) (.t 14) (.c (.int .i64 (.ofNat 1))))),none,0⟩,
⟨(some 14),(.q (.mv (.t 38))),none,0⟩])))))))
(.seq (.reg [⟨(some 39),(.q (.mv (.t 7))),none,0⟩,
⟨(some 6),(.q (.mv (.t 39))),none,0⟩])
.ret)))))⟩
theorem row256 : Row Tryz.prog (256, a256) := ⟨Tryz.f256, Tryz.func256, by kernel_rfl⟩
noncomputable def a257 : AFn :=
⟨159,[(.t 4)],(.seq (.reg [⟨(some 4),(.q (.mv (.c (.int .u32 (.ofNat 0))))),none,0⟩])
(.seq (.reg [⟨(some 18),(.q (.mv (.t 1))),none,0⟩,
⟨(some 19),(.q (.lenSl (.t 18))),none,0⟩,
⟨(some 5),(.q (.mv (.t 19))),none,0⟩])
(.seq (.drw [⟨(some 20),(.q (.mv (.t 0))),none,0⟩,
⟨(some 21),(.q (.mv (.t 5))),none,0⟩,
⟨(some 22),(.q (.iaddr (.slice 1) (.t 20) (.t 21))),none,3⟩,
⟨(some 23),(.q (.ld false 1 (.t 22))),none,7⟩,
⟨(some 24),(.q (.conv (.int .u64) (.t 23))),none,15⟩,
⟨(some 25),(.q (.bin .mul (.p .int) (.t 24) (.c (.int .u64 (.ofNat 1000000000))))),none,31⟩,
⟨(some 26),(.q (.mv (.t 0))),none,0⟩,
⟨(some 27),(.q (.mv (.t 5))),none,0⟩,
⟨(some 28),(.q (.bin .sub (.p .int) (.t 27) (.c (.int .i64 (.ofNat 1))))),none,128⟩,
⟨(some 29),(.q (.iaddr (.slice 1) (.t 26) (.t 28))),none,448⟩,
⟨(some 30),(.q (.ld false 1 (.t 29))),none,960⟩,
⟨(some 31),(.q (.conv (.int .u64) (.t 30))),none,1984⟩,
⟨(some 32),(.q (.bin .add (.p .int) (.t 25) (.t 31))),none,4095⟩,
⟨(some 6),(.q (.mv (.t 32))),none,8191⟩])
(.seq (.drw [⟨(some 33),(.q (.mv (.t 6))),none,0⟩,
⟨(some 34),(.q (.mv (.t 1))),none,0⟩,
⟨(some 35),(.q (.mv (.t 5))),none,0⟩,
⟨(some 36),(.q (.bin .sub (.p .int) (.t 35) (.c (.int .i64 (.ofNat 1))))),none,4⟩,
⟨(some 37),(.q (.iaddr (.slice 1) (.t 34) (.t 36))),none,14⟩,
⟨(some 38),(.q (.ld false 1 (.t 37))),none,30⟩,
⟨(some 39),(.q (.conv (.int .u64) (.t 38))),none,62⟩,
⟨(some 40),(.q (.bin .quo (.p .int) (.t 33) (.t 39))),none,127⟩,
⟨(some 41),(.q (.mv (.t 6))),none,0⟩,
⟨(some 42),(.q (.mv (.t 1))),none,0⟩,
⟨(some 43),(.q (.mv (.t 5))),none,0⟩,
⟨(some 44),(.q (.bin .sub (.p .int) (.t 43) (.c (.int .i64 (.ofNat 1))))),none,1024⟩,
⟨(some 45),(.q (.iaddr (.slice 1) (.t 42) (.t 44))),none,3584⟩,
⟨(some 46),(.q (.ld false 1 (.t 45))),none,7680⟩,
⟨(some 47),(.q (.conv (.int .u64) (.t 46))),none,15872⟩,
⟨(some 48),(.q (.bin .rem (.p .int) (.t 41) (.t 47))),none,32512⟩,
⟨(some 7),(.q (.mv (.t 40))),none,255⟩,
⟨(some 8),(.q (.mv (.t 48))),none,131071⟩])
(.seq (.block 0 (.loop (.seq (.seq (.drw [⟨(some 49),(.q (.mv (.t 8))),none,0⟩,
⟨(some 50),(.q (.bin .lss (.p .int) (.t 49) (.c (.int .u64 (.ofNat 1000000000))))),none,1⟩,
⟨(some 51),(.q (.mv (.t 50))),none,3⟩,
⟨(some 52),(.q (.mv (.t 7))),(some (51,true)),7⟩,
⟨(some 53),(.q (.bin .geq (.p .int) (.t 52) (.c (.int .u64 (.ofNat 1000000000))))),(some (51,true)),15⟩,
⟨(some 54),(.q (.mv (.t 53))),(some (51,true)),31⟩,
⟨(some 55),(.q (.mv (.t 7))),(some (54,false)),63⟩,
⟨(some 56),(.q (.mv (.t 1))),(some (54,false)),63⟩,
⟨(some 57),(.q (.mv (.t 5))),(some (54,false)),63⟩,
⟨(some 58),(.q (.bin .sub (.p .int) (.t 57) (.c (.int .i64 (.ofNat 2))))),(some (54,false)),319⟩,
⟨(some 59),(.q (.iaddr (.slice 1) (.t 56) (.t 58))),(some (54,false)),959⟩,
⟨(some 60),(.q (.ld false 1 (.t 59))),(some (54,false)),1983⟩,
⟨(some 61),(.q (.conv (.int .u64) (.t 60))),(some (54,false)),4031⟩,
⟨(some 62),(.q (.bin .mul (.p .int) (.t 55) (.t 61))),(some (54,false)),8191⟩,
⟨(some 63),(.q (.mv (.t 8))),(some (54,false)),63⟩,
⟨(some 64),(.q (.bin .mul (.p .int) (.t 63) (.c (.int .u64 (.ofNat 1000000000))))),(some (54,false)),16447⟩,
⟨(some 65),(.q (.mv (.t 0))),(some (54,false)),63⟩,
⟨(some 66),(.q (.mv (.t 5))),(some (54,false)),63⟩,
⟨(some 67),(.q (.bin .sub (.p .int) (.t 66) (.c (.int .i64 (.ofNat 2))))),(some (54,false)),131135⟩,
⟨(some 68),(.q (.iaddr (.slice 1) (.t 65) (.t 67))),(some (54,false)),458815⟩,
⟨(some 69),(.q (.ld false 1 (.t 68))),(some (54,false)),983103⟩,
⟨(some 70),(.q (.conv (.int .u64) (.t 69))),(some (54,false)),2031679⟩,
⟨(some 71),(.q (.bin .add (.p .int) (.t 64) (.t 70))),(some (54,false)),4177983⟩,
⟨(some 72),(.q (.bin .gtr (.p .int) (.t 62) (.t 71))),(some (54,false)),8388607⟩,
⟨(some 73),(.q (.pick (.t 54) (.c (.bool true)) (.t 72))),(some (51,true)),16777215⟩,
⟨(some 74),(.q (.pick (.t 51) (.t 73) (.c (.bool false)))),none,33554431⟩])
(.cond (.t 74) .skip (.exit 0)))
(.block 1 (.seq (.reg [⟨(some 75),(.q (.mv (.t 7))),none,0⟩,
⟨(some 76),(.q (.bin .sub (.p .int) (.t 75) (.c (.int .u64 (.ofNat 1))))),none,0⟩,
⟨(some 7),(.q (.mv (.t 76))),none,0⟩])
(.reg [⟨(some 77),(.q (.mv (.t 8))),none,0⟩,
⟨(some 78),(.q (.mv (.t 1))),none,0⟩,
⟨(some 79),(.q (.mv (.t 5))),none,0⟩,
⟨(some 80),(.q (.bin .sub (.p .int) (.t 79) (.c (.int .i64 (.ofNat 1))))),none,0⟩,
⟨(some 81),(.q (.iaddr (.slice 1) (.t 78) (.t 80))),none,0⟩,
⟨(some 82),(.q (.ld false 1 (.t 81))),none,0⟩,
⟨(some 83),(.q (.conv (.int .u64) (.t 82))),none,0⟩,
⟨(some 84),(.q (.bin .add (.p .int) (.t 77) (.t 83))),none,0⟩,
⟨(some 8),(.q (.mv (.t 84))),none,0⟩]))))))
(.seq (.reg [⟨(some 9),(.q (.mv (.c (.int .u64 (.ofNat 0))))),none,0⟩])
(.seq (.seq (.reg [⟨(some 85),(.q (.mv (.t 1))),none,0⟩,
⟨(some 86),(.q (.lenSl (.t 85))),none,0⟩,
⟨(some 87),(.q (.mv (.c (.int .i64 (.ofNat 0))))),none,0⟩])
(.block 2 (.loop (.seq (.reg [⟨(some 88),(.q (.bin .lss (.p .int) (.t 87) (.t 86))),none,0⟩])
(.seq (.cond (.t 88) .skip (.exit 2))
(.seq (.block 3 (.seq (.reg [⟨(some 89),(.q (.mv (.t 87))),none,0⟩,
⟨(some 90),(.q (.iaddr (.slice 1) (.t 85) (.t 87))),none,0⟩,
⟨(some 91),(.q (.ld false 1 (.t 90))),none,0⟩,
⟨(some 10),(.q (.mv (.t 89))),none,0⟩,
⟨(some 11),(.q (.mv (.t 91))),none,0⟩])
(.seq (.reg [⟨(some 92),(.q (.mv (.t 7))),none,0⟩,
⟨(some 93),(.q (.mv (.t 11))),none,0⟩,
⟨(some 94),(.q (.conv (.int .u64) (.t 93))),none,0⟩,
⟨(some 95),(.q (.bin .mul (.p .int) (.t 92) (.t 94))),none,0⟩,
⟨(some 96),(.q (.mv (.t 9))),none,0⟩,
⟨(some 97),(.q (.bin .add (.p .int) (.t 95) (.t 96))),none,0⟩,
⟨(some 12),(.q (.mv (.t 97))),none,0⟩])
(.seq (.reg [⟨(some 98),(.q (.mv (.t 12))),none,0⟩,
⟨(some 99),(.q (.bin .quo (.p .int) (.t 98) (.c (.int .u64 (.ofNat 1000000000))))),none,0⟩,
⟨(some 9),(.q (.mv (.t 99))),none,0⟩])
(.seq (.reg [⟨(some 100),(.q (.mv (.t 0))),none,0⟩,
⟨(some 101),(.q (.mv (.t 10))),none,0⟩,
⟨(some 102),(.q (.iaddr (.slice 1) (.t 100) (.t 101))),none,0⟩,
⟨(some 103),(.q (.ld false 1 (.t 102))),none,0⟩,
⟨(some 104),(.q (.conv (.int .i64) (.t 103))),none,0⟩,
⟨(some 105),(.q (.mv (.t 12))),none,0⟩,
⟨(some 106),(.q (.bin .rem (.p .int) (.t 105) (.c (.int .u64 (.ofNat 1000000000))))),none,0⟩,
⟨(some 107),(.q (.conv (.int .i64) (.t 106))),none,0⟩,
⟨(some 108),(.q (.bin .sub (.p .int) (.t 104) (.t 107))),none,0⟩,
⟨(some 13),(.q (.mv (.t 108))),none,0⟩])
(.seq (.seq (.reg [⟨(some 109),(.q (.mv (.t 13))),none,0⟩,
⟨(some 110),(.q (.bin .lss (.p .int) (.t 109) (.c (.int .i64 (.ofNat 0))))),none,0⟩])
(.cond (.t 110) (.seq (.reg [⟨(some 111),(.q (.mv (.t 13))),none,0⟩,
⟨(some 112),(.q (.bin .add (.p .int) (.t 111) (.c (.int .i64 (.ofNat 1000000000))))),none,0⟩,
⟨(some 13),(.q (.mv (.t 112))),none,0⟩])
(.reg [⟨(some 113),(.q (.mv (.t 9))),none,0⟩,
⟨(some 114),(.q (.bin .add (.p .int) (.t 113) (.c (.int .u64 (.ofNat 1))))),none,0⟩,
⟨(some 9),(.q (.mv (.t 114))),none,0⟩])) .skip))
(.reg [⟨(some 115),(.q (.mv (.t 0))),none,0⟩,
⟨(some 116),(.q (.mv (.t 10))),none,0⟩,
⟨(some 117),(.q (.mv (.t 13))),none,0⟩,
⟨(some 118),(.q (.conv (.int .u32) (.t 117))),none,0⟩,
⟨(some 119),(.q (.iaddr (.slice 1) (.t 115) (.t 116))),none,0⟩,
⟨none,(.x (.st 1 (.t 119) (.t 118))),none,0⟩])))))))
(.reg [⟨(some 120),(.q (.bin .add (.p .int) (.t 87) (.c (.int .i64 (.ofNat 1))))),none,0⟩,
⟨(some 87),(.q (.mv (.t 120))),none,0⟩])))))))
(.seq (.seq (.reg [⟨(some 121),(.q (.mv (.t 0))),none,0⟩,
⟨(some 122),(.q (.mv (.t 5))),none,0⟩,
⟨(some 123),(.q (.iaddr (.slice 1) (.t 121) (.t 122))),none,0⟩,
⟨(some 124),(.q (.ld false 1 (.t 123))),none,0⟩,
⟨(some 125),(.q (.conv (.int .u64) (.t 124))),none,0⟩,
⟨(some 126),(.q (.mv (.t 9))),none,0⟩,
⟨(some 127),(.q (.bin .lss (.p .int) (.t 125) (.t 126))),none,0⟩])
(.cond (.t 127) (.seq (.reg [⟨(some 128),(.q (.mv (.t 7))),none,0⟩,
⟨(some 129),(.q (.bin .sub (.p .int) (.t 128) (.c (.int .u64 (.ofNat 1))))),none,0⟩,
⟨(some 7),(.q (.mv (.t 129))),none,0⟩])
(.seq (.reg [⟨(some 14),(.q (.mv (.c (.int .u32 (.ofNat 0))))),none,0⟩])
(.seq (.reg [⟨(some 130),(.q (.mv (.t 1))),none,0⟩,
⟨(some 131),(.q (.lenSl (.t 130))),none,0⟩,
⟨(some 132),(.q (.mv (.c (.int .i64 (.ofNat 0))))),none,0⟩])
(.block 4 (.loop (.seq (.reg [⟨(some 133),(.q (.bin .lss (.p .int) (.t 132) (.t 131))),none,0⟩])
(.seq (.cond (.t 133) .skip (.exit 4))
(.seq (.block 5 (.seq (.reg [⟨(some 134),(.q (.mv (.t 132))),none,0⟩,
⟨(some 135),(.q (.iaddr (.slice 1) (.t 130) (.t 132))),none,0⟩,
⟨(some 136),(.q (.ld false 1 (.t 135))),none,0⟩,
⟨(some 15),(.q (.mv (.t 134))),none,0⟩,
⟨(some 16),(.q (.mv (.t 136))),none,0⟩])
(.seq (.reg [⟨(some 137),(.q (.mv (.t 0))),none,0⟩,
⟨(some 138),(.q (.mv (.t 15))),none,0⟩,
⟨(some 139),(.q (.iaddr (.slice 1) (.t 137) (.t 138))),none,0⟩,
⟨(some 140),(.q (.ld false 1 (.t 139))),none,0⟩,
⟨(some 141),(.q (.mv (.t 16))),none,0⟩,
⟨(some 142),(.q (.bin .add (.p .int) (.t 140) (.t 141))),none,0⟩,
⟨(some 143),(.q (.mv (.t 14))),none,0⟩,
⟨(some 144),(.q (.bin .add (.p .int) (.t 142) (.t 143))),none,0⟩,
⟨(some 17),(.q (.mv (.t 144))),none,0⟩])
(.seq (.reg [⟨(some 14),(.q (.mv (.c (.int .u32 (.ofNat 0))))),none,0⟩])
(.seq (.seq (.reg [⟨(some 145),(.q (.mv (.t 17))),none,0⟩,
⟨(some 146),(.q (.bin .geq (.p .int) (.t 145) (.c (.int .u32 (.ofNat 1000000000))))),none,0⟩])
(.cond (.t 146) (.seq (.reg [⟨(some 147),(.q (.mv (.t 17))),none,0⟩,
⟨(some 148),(.q (.bin .sub (.p .int) (.t 147) (.c (.int .u32 (.ofNat 1000000000))))),none,0⟩,
⟨(some 17),(.q (.mv (.t 148))),none,0⟩])
(.reg [⟨(some 14),(.q (.mv (.c (.int .u32 (.ofNat 1))))),none,0⟩])) .skip))
(.reg [⟨(some 149),(.q (.mv (.t 0))),none,0⟩,
⟨(some 150),(.q (.mv (.t 15))),none,0⟩,
⟨(some 151),(.q (.mv (.t 17))),none,0⟩,
⟨(some 152),(.q (.iaddr (.slice 1) (.t 149) (.t 150))),none,0⟩,
⟨none,(.x (.st 1 (.t 152) (.t 151))),none,0⟩]))))))
(.reg [⟨(some 153),(.q (.bin .add (.p .int) (.t 132) (.c (.int .i64 (.ofNat 1))))),none,0⟩,
⟨(some 132),(.q (.mv (.t 153))),none,0⟩]))))))))) .skip))
(.seq (.reg [⟨(some 154),(.q (.mv (.t 0))),none,0⟩,
⟨(some 155),(.q (.mv (.t 5))),none,0⟩,
⟨(some 156),(.q (.iaddr (.slice 1) (.t 154) (.t 155))),none,0⟩,
⟨none,(.x (.st 1 (.t 156) (.c (.int .u32 (.ofNat 0))))),none,0⟩])
(.seq (.reg [⟨(some 157),(.q (.mv (.t 7))),none,0⟩,
⟨(some 158),(.q (.conv (.int .u32) (.t 157))),none,0⟩,
⟨(some 4),(.q (.mv (.t 158))),none,0⟩])
.ret))))))))))⟩
theorem row257 : Row Tryz.prog (257, a257) := ⟨Tryz.f257, Tryz.func257, by kernel_rfl⟩
noncomputable def a258 : AFn :=
⟨21,[(.t 2)],(.seq (.reg [⟨(some 2),(.q (.mv (.c .nilsl))),none,0⟩])
(.seq (.block 0 (.loop (.seq (.seq (.reg [⟨(some 3),(.q (.mv (.t 0))),none,0⟩,
⟨(some 4),(.q (.lenSl (.t 3))),none,0⟩,
⟨(some 5),(.q (.bin .gtr (.p .int) (.t 4) (.c (.int .i64 (.ofNat 0))))),none,0⟩,
⟨(some 6),(.q (.mv (.t 5))),none,0⟩,
⟨(some 7),(.q (.mv (.t 0))),(some (6,true)),0⟩,
⟨(some 8),(.q (.mv (.t 0))),(some (6,true)),0⟩,
⟨(some 9),(.q (.lenSl (.t 8))),(some (6,true)),0⟩,
⟨(some 10),(.q (.bin .sub (.p .int) (.t 9) (.c (.int .i64 (.ofNat 1))))),(some (6,true)),0⟩,
⟨(some 11),(.q (.iaddr (.slice 1) (.t 7) (.t 10))),(some (6,true)),0⟩,
⟨(some 12),(.q (.ld false 1 (.t 11))),(some (6,true)),0⟩,
⟨(some 13),(.q (.bin .eql (.p .int) (.t 12) (.c (.int .u32 (.ofNat 0))))),(some (6,true)),0⟩,
⟨(some 14),(.q (.pick (.t 6) (.t 13) (.c (.bool false)))),none,0⟩])
(.cond (.t 14) .skip (.exit 0)))
(.block 1 (.reg [⟨(some 15),(.q (.mv (.t 0))),none,0⟩,
⟨(some 16),(.q (.mv (.t 0))),none,0⟩,
⟨(some 17),(.q (.lenSl (.t 16))),none,0⟩,
⟨(some 18),(.q (.bin .sub (.p .int) (.t 17) (.c (.int .i64 (.ofNat 1))))),none,0⟩,
⟨(some 19),(.q (.slc (.slice 1) (.t 15) none (some (.t 18)) none)),none,0⟩,
⟨(some 0),(.q (.mv (.t 19))),none,0⟩])))))
(.seq (.reg [⟨(some 20),(.q (.mv (.t 0))),none,0⟩,
⟨(some 2),(.q (.mv (.t 20))),none,0⟩])
.ret)))⟩
theorem row258 : Row Tryz.prog (258, a258) := ⟨Tryz.f258, Tryz.func258, by kernel_rfl⟩
noncomputable def a265 : AFn :=
⟨9,[(.t 4)],(.seq (.reg [⟨(some 4),(.q (.mv (.c (.bool false)))),none,0⟩])
(.seq (.reg [⟨(some 5),(.q (.mv (.t 0))),none,0⟩,
⟨(some 6),(.q (.mv (.t 1))),none,0⟩,
⟨(some 7),(.x (.call (.c (.fn 271 [] [])) [(.t 5),(.t 6)])),none,0⟩,
⟨(some 8),(.q (.bin .geq (.p .int) (.t 7) (.c (.int .i64 (.ofNat 0))))),none,0⟩,
⟨(some 4),(.q (.mv (.t 8))),none,0⟩])
.ret))⟩
theorem row265 : Row Tryz.prog (265, a265) := ⟨Tryz.f265, Tryz.func265, by kernel_rfl⟩
noncomputable def a266 : AFn :=
⟨13,[(.t 4)],(.seq (.reg [⟨(some 4),(.q (.mv (.c (.bool false)))),none,0⟩])
(.seq (.reg [⟨(some 5),(.q (.mv (.t 0))),none,0⟩,
⟨(some 6),(.q (.ld false 1 (.t 1))),none,0⟩,
⟨(some 7),(.q (.bin .lss (.p .int) (.t 5) (.t 6))),none,0⟩,
⟨(some 8),(.q (.mv (.t 7))),none,0⟩,
⟨(some 9),(.q (.mv (.t 0))),(some (8,false)),0⟩,
⟨(some 10),(.q (.ld false 1 (.t 2))),(some (8,false)),0⟩,
⟨(some 11),(.q (.bin .gtr (.p .int) (.t 9) (.t 10))),(some (8,false)),0⟩,
⟨(some 12),(.q (.pick (.t 8) (.c (.bool true)) (.t 11))),none,0⟩,
⟨(some 4),(.q (.mv (.t 12))),none,0⟩])
.ret))⟩
theorem row266 : Row Tryz.prog (266, a266) := ⟨Tryz.f266, Tryz.func266, by kernel_rfl⟩
noncomputable def a271 : AFn :=
⟨19,[(.t 4)],(.seq (.reg [⟨(some 4),(.q (.mv (.c (.int .i64 (.ofNat 0))))),none,0⟩])
(.seq (.seq (.reg [⟨(some 6),(.q (.mv (.t 0))),none,0⟩,
⟨(some 7),(.q (.lenSl (.t 6))),none,0⟩,
⟨(some 8),(.q (.mv (.c (.int .i64 (.ofNat 0))))),none,0⟩])
(.block 0 (.loop (.seq (.reg [⟨(some 9),(.q (.bin .lss (.p .int) (.t 8) (.t 7))),none,0⟩])
(.seq (.cond (.t 9) .skip (.exit 0))
(.seq (.block 1 (.seq (.reg [⟨(some 10),(.q (.mv (.t 8))),none,0⟩,
⟨(some 5),(.q (.mv (.t 10))),none,0⟩])
(.seq (.reg [⟨(some 11),(.q (.mv (.t 1))),none,0⟩,
⟨(some 12),(.q (.mv (.t 0))),none,0⟩,
⟨(some 13),(.q (.mv (.t 5))),none,0⟩,
⟨(some 14),(.q (.iaddr (.slice 1) (.t 12) (.t 13))),none,0⟩,
⟨(some 15),(.q (.ld false 1 (.t 14))),none,0⟩,
⟨(some 16),(.x (.call (.t 11) [(.t 15)])),none,0⟩])
(.cond (.t 16) (.seq (.reg [⟨(some 17),(.q (.mv (.t 5))),none,0⟩,
⟨(some 4),(.q (.mv (.t 17))),none,0⟩])
.ret) .skip))))
(.reg [⟨(some 18),(.q (.bin .add (.p .int) (.t 8) (.c (.int .i64 (.ofNat 1))))),none,0⟩,
⟨(some 8),(.q (.mv (.t 18))),none,0⟩])))))))
(.seq (.reg [⟨(some 4),(.q (.mv (.c (.int .i64 (.negSucc 0))))),none,0⟩])
.ret)))⟩
theorem row271 : Row Tryz.prog (271, a271) := ⟨Tryz.f271, Tryz.func271, by kernel_rfl⟩
noncomputable def a288 : AFn :=
⟨12,[(.t 6)],(.seq (.reg [⟨(some 4),(.a (.box 75 (.t 1))),none,0⟩,
⟨(some 6),(.q (.mv (.c (.int .i64 (.ofNat 0))))),none,0⟩])
(.seq (.reg [⟨(some 7),(.q (.mv (.t 0))),none,0⟩,
⟨(some 8),(.q (.faddr 2 (.t 4))),none,0⟩,
⟨(some 9),(.q (.ld false 1 (.t 8))),none,0⟩,
⟨(some 10),(.q (.iaddr (.slice 1) (.t 7) (.t 9))),none,0⟩,
⟨(some 11),(.q (.ld false 1 (.t 10))),none,0⟩,
⟨(some 6),(.q (.mv (.t 11))),none,0⟩])
.ret))⟩
theorem row288 : Row Tryz.prog (288, a288) := ⟨Tryz.f288, Tryz.func288, by kernel_rfl⟩
noncomputable def a289 : AFn :=
⟨5,[(.t 4)],(.seq (.reg [⟨(some 3),(.a (.box 75 (.t 1))),none,0⟩,
⟨(some 4),(.q (.mv (.c (.int .i64 (.ofNat 0))))),none,0⟩])
(.seq (.reg [⟨(some 4),(.q (.mv (.c (.int .i64 (.ofNat 1))))),none,0⟩])
.ret))⟩
theorem row289 : Row Tryz.prog (289, a289) := ⟨Tryz.f289, Tryz.func289, by kernel_rfl⟩
noncomputable def a292 : AFn :=
⟨15,[(.t 6)],(.seq (.reg [⟨(some 3),(.a (.box 134 (.t 0))),none,0⟩,
⟨(some 4),(.a (.box 75 (.t 1))),none,0⟩,
⟨(some 6),(.q (.mv (.c (.int .i64 (.ofNat 0))))),none,0⟩])
(.seq (.reg [⟨(some 7),(.q (.faddr 1 (.t 3))),none,0⟩,
⟨(some 8),(.q (.ld false 1 (.t 7))),none,0⟩,
⟨(some 9),(.q (.faddr 2 (.t 4))),none,0⟩,
⟨(some 10),(.q (.ld false 1 (.t 9))),none,0⟩,
⟨(some 11),(.q (.iaddr (.slice 1) (.t 8) (.t 10))),none,0⟩,
⟨(some 12),(.q (.ld false 1 (.t 11))),none,0⟩,
⟨(some 13),(.q (.mv (.t 2))),none,0⟩,
⟨(some 14),(.x (.call (.c (.fn 294 [] [])) [(.t 12),(.t 13)])),none,0⟩,
⟨(some 6),(.q (.mv (.t 14))),none,0⟩])
.ret))⟩
theorem row292 : Row Tryz.prog (292, a292) := ⟨Tryz.f292, Tryz.func292, by kernel_rfl⟩
noncomputable def a293 : AFn :=
⟨8,[(.t 4)],(.seq (.reg [⟨(some 2),(.a (.box 134 (.t 0))),none,0⟩,
⟨(some 3),(.a (.box 75 (.t 1))),none,0⟩,
⟨(some 4),(.q (.mv (.c (.int .i64 (.ofNat 0))))),none,0⟩])
(.seq (.reg [⟨(some 5),(.q (.faddr 0 (.t 2))),none,0⟩,
⟨(some 6),(.q (.ld false 1 (.t 5))),none,0⟩,
⟨(some 7),(.q (.bin .shl (.p .int) (.c (.int .i64 (.ofNat 1))) (.t 6))),none,0⟩,
⟨(some 4),(.q (.mv (.t 7))),none,0⟩])
.ret))⟩
theorem row293 : Row Tryz.prog (293, a293) := ⟨Tryz.f293, Tryz.func293, by kernel_rfl⟩
noncomputable def a294 : AFn :=
⟨22,[(.t 4)],(.seq (.reg [⟨(some 4),(.q (.mv (.c (.int .i64 (.ofNat 0))))),none,0⟩])
(.seq (.seq (.reg [⟨(some 7),(.q (.mv (.t 0))),none,0⟩,
⟨(some 8),(.q (.lenSl (.t 7))),none,0⟩,
⟨(some 9),(.q (.mv (.c (.int .i64 (.ofNat 0))))),none,0⟩])
(.block 0 (.loop (.seq (.reg [⟨(some 10),(.q (.bin .lss (.p .int) (.t 9) (.t 8))),none,0⟩])
(.seq (.cond (.t 10) .skip (.exit 0))
(.seq (.block 1 (.seq (.reg [⟨(some 11),(.q (.mv (.t 9))),none,0⟩,
⟨(some 12),(.q (.iaddr (.slice 1) (.t 7) (.t 9))),none,0⟩,
⟨(some 13),(.q (.ld false 1 (.t 12))),none,0⟩,
⟨(some 5),(.q (.mv (.t 11))),none,0⟩,
⟨(some 6),(.q (.mv (.t 13))),none,0⟩])
(.seq (.seq (.reg [⟨(some 14),(.q (.mv (.t 1))),none,0⟩,
⟨(some 15),(.q (.mv (.t 6))),none,0⟩,
⟨(some 16),(.q (.bin .lss (.p .int) (.t 14) (.t 15))),none,0⟩])
(.cond (.t 16) (.seq (.reg [⟨(some 17),(.q (.mv (.t 5))),none,0⟩,
⟨(some 4),(.q (.mv (.t 17))),none,0⟩])
.ret) .skip))
(.reg [⟨(some 18),(.q (.mv (.t 1))),none,0⟩,
⟨(some 19),(.q (.mv (.t 6))),none,0⟩,
⟨(some 20),(.q (.bin .sub (.p .int) (.t 18) (.t 19))),none,0⟩,
⟨(some 1),(.q (.mv (.t 20))),none,0⟩]))))
(.reg [⟨(some 21),(.q (.bin .add (.p .int) (.t 9) (.c (.int .i64 (.ofNat 1))))),none,0⟩,
⟨(some 9),(.q (.mv (.t 21))),none,0⟩])))))))
(.seq (.reg [⟨(some 4),(.q (.mv (.c (.int .i64 (.ofNat 0))))),none,0⟩])
.ret)))⟩
theorem row294 : Row Tryz.prog (294, a294) := ⟨Tryz.f294, Tryz.func294, by kernel_rfl⟩
noncomputable def a295 : AFn :=
⟨11,[(.t 6)],(.seq (.reg [⟨(some 3),(.a (.box 142 (.t 0))),none,0⟩,
⟨(some 4),(.a (.box 75 (.t 1))),none,0⟩,
⟨(some 6),(.q (.mv (.c (.int .i64 (.ofNat 0))))),none,0⟩])
(.seq (.reg [⟨(some 7),(.q (.faddr 4 (.t 4))),none,0⟩,
⟨(some 8),(.q (.ld false 1 (.t 7))),none,0⟩,
⟨(some 9),(.q (.mv (.t 2))),none,0⟩,
⟨(some 10),(.x (.call (.c (.fn 294 [] [])) [(.t 8),(.t 9)])),none,0⟩,
⟨(some 6),(.q (.mv (.t 10))),none,0⟩])
.ret))⟩
theorem row295 : Row Tryz.prog (295, a295) := ⟨Tryz.f295, Tryz.func295, by kernel_rfl⟩
end Go.Proofs.YtopemogpgppjlaaGreatDoor.reduceKnown
