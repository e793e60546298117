/- The functions that DealKnown reaches, as data of the evaluator (part 3), written by program; each is shown to be the compiler's result on the loaded function. -/
import Derived.Test.YtiiplmagnlcpbaaGreatDoorProg
import Derived.Test.YtiiplmagnlcpbaaGreatDoorEv7
import Derived.KernelRfl
namespace Go.Proofs.YtiiplmagnlcpbaaGreatDoor.dealKnown
open Go.Ev
set_option maxRecDepth 100000
noncomputable def a137 : AFn :=
⟨40,[(.t 6)],(.seq (.reg [⟨(some 6),(.q (.mv (.c .nilsl))),none,0⟩])
(.seq (.reg [⟨(some 10),(.q (.mv (.t 2))),none,0⟩,
⟨(some 11),(.a (.mkSlice 97 1 4 [(.int .u32 (.ofNat 0))] (.t 10) (.t 10))),none,0⟩,
⟨(some 7),(.q (.mv (.t 11))),none,0⟩])
(.seq (.reg [⟨(some 8),(.q (.mv (.c (.int .u64 (.ofNat 0))))),none,0⟩])
(.seq (.seq (.reg [⟨(some 12),(.q (.mv (.t 7))),none,0⟩,
⟨(some 13),(.q (.lenSl (.t 12))),none,0⟩,
⟨(some 14),(.q (.mv (.c (.int .i64 (.ofNat 0))))),none,0⟩])
(.block 0 (.loop (.seq (.reg [⟨(some 15),(.q (.bin .lss (.p .int) (.t 14) (.t 13))),none,0⟩])
(.seq (.cond (.t 15) .skip (.exit 0))
(.seq (.block 1 (.seq (.reg [⟨(some 16),(.q (.mv (.t 14))),none,0⟩,
⟨(some 9),(.q (.mv (.t 16))),none,0⟩])
(.seq (.seq (.reg [⟨(some 17),(.q (.mv (.t 9))),none,0⟩,
⟨(some 18),(.q (.mv (.t 0))),none,0⟩,
⟨(some 19),(.q (.lenSl (.t 18))),none,0⟩,
⟨(some 20),(.q (.bin .lss (.p .int) (.t 17) (.t 19))),none,0⟩])
(.cond (.t 20) (.reg [⟨(some 21),(.q (.mv (.t 8))),none,0⟩,
⟨(some 22),(.q (.mv (.t 0))),none,0⟩,
⟨(some 23),(.q (.mv (.t 9))),none,0⟩,
⟨(some 24),(.q (.iaddr (.slice 1) (.t 22) (.t 23))),none,0⟩,
⟨(some 25),(.q (.ld false 1 (.t 24))),none,0⟩,
⟨(some 26),(.q (.conv (.int .u64) (.t 25))),none,0⟩,
⟨(some 27),(.q (.mv (.t 1))),none,0⟩,
⟨(some 28),(.q (.bin .mul (.p .int) (.t 26) (.t 27))),none,0⟩,
⟨(some 29),(.q (.bin .add (.p .int) (.t 21) (.t 28))),none,0⟩,
⟨(some 8),(.q (.mv (.t 29))),none,0⟩]) .skip))
(.seq (.reg [⟨(some 30),(.q (.mv (.t 7))),none,0⟩,
⟨(some 31),(.q (.mv (.t 9))),none,0⟩,
⟨(some 32),(.q (.mv (.t 8))),none,0⟩,
⟨(some 33),(.q (.bin .rem (.p .int) (.t 32) (.c (.int .u64 (.ofNat 1000000000))))),none,0⟩,
⟨(some 34),(.q (.conv (.int .u32) (.t 33))),none,0⟩,
⟨(some 35),(.q (.iaddr (.slice 1) (.t 30) (.t 31))),none,0⟩,
⟨none,(.x (.st 1 (.t 35) (.t 34))),none,0⟩])
(.reg [⟨(some 36),(.q (.mv (.t 8))),none,0⟩,
⟨(some 37),(.q (.bin .quo (.p .int) (.t 36) (.c (.int .u64 (.ofNat 1000000000))))),none,0⟩,
⟨(some 8),(.q (.mv (.t 37))),none,0⟩])))))
(.reg [⟨(some 38),(.q (.bin .add (.p .int) (.t 14) (.c (.int .i64 (.ofNat 1))))),none,0⟩,
⟨(some 14),(.q (.mv (.t 38))),none,0⟩])))))))
(.seq (.reg [⟨(some 39),(.q (.mv (.t 7))),none,0⟩,
⟨(some 6),(.q (.mv (.t 39))),none,0⟩])
.ret)))))⟩
theorem row137 : Row Tryz.prog (137, a137) := ⟨Tryz.f137, Tryz.func137, by kernel_rfl⟩
noncomputable def a138 : AFn :=
⟨159,[(.t 4)],(.seq (.reg [⟨(some 4),(.q (.mv (.c (.int .u32 (.ofNat 0))))),none,0⟩])
(.seq (.reg [⟨(some 18),(.q (.mv (.t 1))),none,0⟩,
⟨(some 19),(.q (.lenSl (.t 18))),none,0⟩,
⟨(some 5),(.q (.mv (.t 19))),none,0⟩])
(.seq (.drw [⟨(some 20),(.q (.mv (.t 0))),none,0⟩,
⟨(some 21),(.q (.mv (.t 5))),none,0⟩,
⟨(some 22),(.q (.iaddr (.slice 1) (.t 20) (.t 21))),none,3⟩,
⟨(some 23),(.q (.ld false 1 (.t 22))),none,7⟩,
⟨(some 24),(.q (.conv (.int .u64) (.t 23))),none,15⟩,
⟨(some 25),(.q (.bin .mul (.p .int) (.t 24) (.c (.int .u64 (.ofNat 1000000000))))),none,31⟩,
⟨(some 26),(.q (.mv (.t 0))),none,0⟩,
⟨(some 27),(.q (.mv (.t 5))),none,0⟩,
⟨(some 28),(.q (.bin .sub (.p .int) (.t 27) (.c (.int .i64 (.ofNat 1))))),none,128⟩,
⟨(some 29),(.q (.iaddr (.slice 1) (.t 26) (.t 28))),none,448⟩,
⟨(some 30),(.q (.ld false 1 (.t 29))),none,960⟩,
⟨(some 31),(.q (.conv (.int .u64) (.t 30))),none,1984⟩,
⟨(some 32),(.q (.bin .add (.p .int) (.t 25) (.t 31))),none,4095⟩,
⟨(some 6),(.q (.mv (.t 32))),none,8191⟩])
(.seq (.drw [⟨(some 33),(.q (.mv (.t 6))),none,0⟩,
⟨(some 34),(.q (.mv (.t 1))),none,0⟩,
⟨(some 35),(.q (.mv (.t 5))),none,0⟩,
⟨(some 36),(.q (.bin .sub (.p .int) (.t 35) (.c (.int .i64 (.ofNat 1))))),none,4⟩,
⟨(some 37),(.q (.iaddr (.slice 1) (.t 34) (.t 36))),none,14⟩,
⟨(some 38),(.q (.ld false 1 (.t 37))),none,30⟩,
⟨(some 39),(.q (.conv (.int .u64) (.t 38))),none,62⟩,
⟨(some 40),(.q (.bin .quo (.p .int) (.t 33) (.t 39))),none,127⟩,
⟨(some 41),(.q (.mv (.t 6))),none,0⟩,
⟨(some 42),(.q (.mv (.t 1))),none,0⟩,
⟨(some 43),(.q (.mv (.t 5))),none,0⟩,
⟨(some 44),(.q (.bin .sub (.p .int) (.t 43) (.c (.int .i64 (.ofNat 1))))),none,1024⟩,
⟨(some 45),(.q (.iaddr (.slice 1) (.t 42) (.t 44))),none,3584⟩,
⟨(some 46),(.q (.ld false 1 (.t 45))),none,7680⟩,
⟨(some 47),(.q (.conv (.int .u64) (.t 46))),none,15872⟩,
⟨(some 48),(.q (.bin .rem (.p .int) (.t 41) (.t 47))),none,32512⟩,
⟨(some 7),(.q (.mv (.t 40))),none,255⟩,
⟨(some 8),(.q (.mv (.t 48))),none,131071⟩])
(.seq (.block 0 (.loop (.seq (.seq (.drw [⟨(some 49),(.q (.mv (.t 8))),none,0⟩,
⟨(some 50),(.q (.bin .lss (.p .int) (.t 49) (.c (.int .u64 (.ofNat 1000000000))))),none,1⟩,
⟨(some 51),(.q (.mv (.t 50))),none,3⟩,
⟨(some 52),(.q (.mv (.t 7))),(some (51,true)),7⟩,
⟨(some 53),(.q (.bin .geq (.p .int) (.t 52) (.c (.int .u64 (.ofNat 1000000000))))),(some (51,true)),15⟩,
⟨(some 54),(.q (.mv (.t 53))),(some (51,true)),31⟩,
⟨(some 55),(.q (.mv (.t 7))),(some (54,false)),63⟩,
⟨(some 56),(.q (.mv (.t 1))),(some (54,false)),63⟩,
⟨(some 57),(.q (.mv (.t 5))),(some (54,false)),63⟩,
⟨(some 58),(.q (.bin .sub (.p .int) (.t 57) (.c (.int .i64 (.ofNat 2))))),(some (54,false)),319⟩,
⟨(some 59),(.q (.iaddr (.slice 1) (.t 56) (.t 58))),(some (54,false)),959⟩,
⟨(some 60),(.q (.ld false 1 (.t 59))),(some (54,false)),1983⟩,
⟨(some 61),(.q (.conv (.int .u64) (.t 60))),(some (54,false)),4031⟩,
⟨(some 62),(.q (.bin .mul (.p .int) (.t 55) (.t 61))),(some (54,false)),8191⟩,
⟨(some 63),(.q (.mv (.t 8))),(some (54,false)),63⟩,
⟨(some 64),(.q (.bin .mul (.p .int) (.t 63) (.c (.int .u64 (.ofNat 1000000000))))),(some (54,false)),16447⟩,
⟨(some 65),(.q (.mv (.t 0))),(some (54,false)),63⟩,
⟨(some 66),(.q (.mv (.t 5))),(some (54,false)),63⟩,
⟨(some 67),(.q (.bin .sub (.p .int) (.t 66) (.c (.int .i64 (.ofNat 2))))),(some (54,false)),131135⟩,
⟨(some 68),(.q (.iaddr (.slice 1) (.t 65) (.t 67))),(some (54,false)),458815⟩,
⟨(some 69),(.q (.ld false 1 (.t 68))),(some (54,false)),983103⟩,
⟨(some 70),(.q (.conv (.int .u64) (.t 69))),(some (54,false)),2031679⟩,
⟨(some 71),(.q (.bin .add (.p .int) (.t 64) (.t 70))),(some (54,false)),4177983⟩,
⟨(some 72),(.q (.bin .gtr (.p .int) (.t 62) (.t 71))),(some (54,false)),8388607⟩,
⟨(some 73),(.q (.pick (.t 54) (.c (.bool true)) (.t 72))),(some (51,true)),16777215⟩,
⟨(some 74),(.q (.pick (.t 51) (.t 73) (.c (.bool false)))),none,33554431⟩])
(.cond (.t 74) .skip (.exit 0)))
(.block 1 (.seq (.reg [⟨(some 75),(.q (.mv (.t 7))),none,0⟩,
⟨(some 76),(.q (.bin .sub (.p .int) (.t 75) (.c (.int .u64 (.ofNat 1))))),none,0⟩,
⟨(some 7),(.q (.mv (.t 76))),none,0⟩])
(.reg [⟨(some 77),(.q (.mv (.t 8))),none,0⟩,
⟨(some 78),(.q (.mv (.t 1))),none,0⟩,
⟨(some 79),(.q (.mv (.t 5))),none,0⟩,
⟨(some 80),(.q (.bin .sub (.p .int) (.t 79) (.c (.int .i64 (.ofNat 1))))),none,0⟩,
⟨(some 81),(.q (.iaddr (.slice 1) (.t 78) (.t 80))),none,0⟩,
⟨(some 82),(.q (.ld false 1 (.t 81))),none,0⟩,
⟨(some 83),(.q (.conv (.int .u64) (.t 82))),none,0⟩,
⟨(some 84),(.q (.bin .add (.p .int) (.t 77) (.t 83))),none,0⟩,
⟨(some 8),(.q (.mv (.t 84))),none,0⟩]))))))
(.seq (.reg [⟨(some 9),(.q (.mv (.c (.int .u64 (.ofNat 0))))),none,0⟩])
(.seq (.seq (.reg [⟨(some 85),(.q (.mv (.t 1))),none,0⟩,
⟨(some 86),(.q (.lenSl (.t 85))),none,0⟩,
⟨(some 87),(.q (.mv (.c (.int .i64 (.ofNat 0))))),none,0⟩])
(.block 2 (.loop (.seq (.reg [⟨(some 88),(.q (.bin .lss (.p .int) (.t 87) (.t 86))),none,0⟩])
(.seq (.cond (.t 88) .skip (.exit 2))
(.seq (.block 3 (.seq (.reg [⟨(some 89),(.q (.mv (.t 87))),none,0⟩,
⟨(some 90),(.q (.iaddr (.slice 1) (.t 85) (.t 87))),none,0⟩,
⟨(some 91),(.q (.ld false 1 (.t 90))),none,0⟩,
⟨(some 10),(.q (.mv (.t 89))),none,0⟩,
⟨(some 11),(.q (.mv (.t 91))),none,0⟩])
(.seq (.reg [⟨(some 92),(.q (.mv (.t 7))),none,0⟩,
⟨(some 93),(.q (.mv (.t 11))),none,0⟩,
⟨(some 94),(.q (.conv (.int .u64) (.t 93))),none,0⟩,
⟨(some 95),(.q (.bin .mul (.p .int) (.t 92) (.t 94))),none,0⟩,
⟨(some 96),(.q (.mv (.t 9))),none,0⟩,
⟨(some 97),(.q (.bin .add (.p .int) (.t 95) (.t 96))),none,0⟩,
⟨(some 12),(.q (.mv (.t 97))),none,0⟩])
(.seq (.reg [⟨(some 98),(.q (.mv (.t 12))),none,0⟩,
⟨(some 99),(.q (.bin .quo (.p .int) (.t 98) (.c (.int .u64 (.ofNat 1000000000))))),none,0⟩,
⟨(some 9),(.q (.mv (.t 99))),none,0⟩])
(.seq (.reg [⟨(some 100),(.q (.mv (.t 0))),none,0⟩,
⟨(some 101),(.q (.mv (.t 10))),none,0⟩,
⟨(some 102),(.q (.iaddr (.slice 1) (.t 100) (.t 101))),none,0⟩,
⟨(some 103),(.q (.ld false 1 (.t 102))),none,0⟩,
⟨(some 104),(.q (.conv (.int .i64) (.t 103))),none,0⟩,
⟨(some 105),(.q (.mv (.t 12))),none,0⟩,
⟨(some 106),(.q (.bin .rem (.p .int) (.t 105) (.c (.int .u64 (.ofNat 1000000000))))),none,0⟩,
⟨(some 107),(.q (.conv (.int .i64) (.t 106))),none,0⟩,
⟨(some 108),(.q (.bin .sub (.p .int) (.t 104) (.t 107))),none,0⟩,
⟨(some 13),(.q (.mv (.t 108))),none,0⟩])
(.seq (.seq (.reg [⟨(some 109),(.q (.mv (.t 13))),none,0⟩,
⟨(some 110),(.q (.bin .lss (.p .int) (.t 109) (.c (.int .i64 (.ofNat 0))))),none,0⟩])
(.cond (.t 110) (.seq (.reg [⟨(some 111),(.q (.mv (.t 13))),none,0⟩,
⟨(some 112),(.q (.bin .add (.p .int) (.t 111) (.c (.int .i64 (.ofNat 1000000000))))),none,0⟩,
⟨(some 13),(.q (.mv (.t 112))),none,0⟩])
(.reg [⟨(some 113),(.q (.mv (.t 9))),none,0⟩,
⟨(some 114),(.q (.bin .add (.p .int) (.t 113) (.c (.int .u64 (.ofNat 1))))),none,0⟩,
⟨(some 9),(.q (.mv (.t 114))),none,0⟩])) .skip))
(.reg [⟨(some 115),(.q (.mv (.t 0))),none,0⟩,
⟨(some 116),(.q (.mv (.t 10))),none,0⟩,
⟨(some 117),(.q (.mv (.t 13))),none,0⟩,
⟨(some 118),(.q (.conv (.int .u32) (.t 117))),none,0⟩,
⟨(some 119),(.q (.iaddr (.slice 1) (.t 115) (.t 116))),none,0⟩,
⟨none,(.x (.st 1 (.t 119) (.t 118))),none,0⟩])))))))
(.reg [⟨(some 120),(.q (.bin .add (.p .int) (.t 87) (.c (.int .i64 (.ofNat 1))))),none,0⟩,
⟨(some 87),(.q (.mv (.t 120))),none,0⟩])))))))
(.seq (.seq (.reg [⟨(some 121),(.q (.mv (.t 0))),none,0⟩,
⟨(some 122),(.q (.mv (.t 5))),none,0⟩,
⟨(some 123),(.q (.iaddr (.slice 1) (.t 121) (.t 122))),none,0⟩,
⟨(some 124),(.q (.ld false 1 (.t 123))),none,0⟩,
⟨(some 125),(.q (.conv (.int .u64) (.t 124))),none,0⟩,
⟨(some 126),(.q (.mv (.t 9))),none,0⟩,
⟨(some 127),(.q (.bin .lss (.p .int) (.t 125) (.t 126))),none,0⟩])
(.cond (.t 127) (.seq (.reg [⟨(some 128),(.q (.mv (.t 7))),none,0⟩,
⟨(some 129),(.q (.bin .sub (.p .int) (.t 128) (.c (.int .u64 (.ofNat 1))))),none,0⟩,
⟨(some 7),(.q (.mv (.t 129))),none,0⟩])
(.seq (.reg [⟨(some 14),(.q (.mv (.c (.int .u32 (.ofNat 0))))),none,0⟩])
(.seq (.reg [⟨(some 130),(.q (.mv (.t 1))),none,0⟩,
⟨(some 131),(.q (.lenSl (.t 130))),none,0⟩,
⟨(some 132),(.q (.mv (.c (.int .i64 (.ofNat 0))))),none,0⟩])
(.block 4 (.loop (.seq (.reg [⟨(some 133),(.q (.bin .lss (.p .int) (.t 132) (.t 131))),none,0⟩])
(.seq (.cond (.t 133) .skip (.exit 4))
(.seq (.block 5 (.seq (.reg [⟨(some 134),(.q (.mv (.t 132))),none,0⟩,
⟨(some 135),(.q (.iaddr (.slice 1) (.t 130) (.t 132))),none,0⟩,
⟨(some 136),(.q (.ld false 1 (.t 135))),none,0⟩,
⟨(some 15),(.q (.mv (.t 134))),none,0⟩,
⟨(some 16),(.q (.mv (.t 136))),none,0⟩])
(.seq (.reg [⟨(some 137),(.q (.mv (.t 0))),none,0⟩,
⟨(some 138),(.q (.mv (.t 15))),none,0⟩,
⟨(some 139),(.q (.iaddr (.slice 1) (.t 137) (.t 138))),none,0⟩,
⟨(some 140),(.q (.ld false 1 (.t 139))),none,0⟩,
⟨(some 141),(.q (.mv (.t 16))),none,0⟩,
⟨(some 142),(.q (.bin .add (.p .int) (.t 140) (.t 141))),none,0⟩,
⟨(some 143),(.q (.mv (.t 14))),none,0⟩,
⟨(some 144),(.q (.bin .add (.p .int) (.t 142) (.t 143))),none,0⟩,
⟨(some 17),(.q (.mv (.t 144))),none,0⟩])
(.seq (.reg [⟨(some 14),(.q (.mv (.c (.int .u32 (.ofNat 0))))),none,0⟩])
(.seq (.seq (.reg [⟨(some 145),(.q (.mv (.t 17))),none,0⟩,
⟨(some 146),(.q (.bin .geq (.p .int) (.t 145) (.c (.int .u32 (.ofNat 1000000000))))),none,0⟩])
(.cond (.t 146) (.seq (.reg [⟨(some 147),(.q (.mv (.t 17))),none,0⟩,
⟨(some 148),(.q (.bin .sub (.p .int) (.t 147) (.c (.int .u32 (.ofNat 1000000000))))),none,0⟩,
⟨(some 17),(.q (.mv (.t 148))),none,0⟩])
(.reg [⟨(some 14),(.q (.mv (.c (.int .u32 (.ofNat 1))))),none,0⟩])) .skip))
(.reg [⟨(some 149),(.q (.mv (.t 0))),none,0⟩,
⟨(some 150),(.q (.mv (.t 15))),none,0⟩,
⟨(some 151),(.q (.mv (.t 17))),none,0⟩,
⟨(some 152),(.q (.iaddr (.slice 1) (.t 149) (.t 150))),none,0⟩,
⟨none,(.x (.st 1 (.t 152) (.t 151))),none,0⟩]))))))
(.reg [⟨(some 153),(.q (.bin .add (.p .int) (.t 132) (.c (.int .i64 (.ofNat 1))))),none,0⟩,
⟨(some 132),(.q (.mv (.t 153))),none,0⟩]))))))))) .skip))
(.seq (.reg [⟨(some 154),(.q (.mv (.t 0))),none,0⟩,
⟨(some 155),(.q (.mv (.t 5))),none,0⟩,
⟨(some 156),(.q (.iaddr (.slice 1) (.t 154) (.t 155))),none,0⟩,
⟨none,(.x (.st 1 (.t 156) (.c (.int .u32 (.ofNat 0))))),none,0⟩])
(.seq (.reg [⟨(some 157),(.q (.mv (.t 7))),none,0⟩,
⟨(some 158),(.q (.conv (.int .u32) (.t 157))),none,0⟩,
⟨(some 4),(.q (.mv (.t 158))),none,0⟩])
.ret))))))))))⟩
theorem row138 : Row Tryz.prog (138, a138) := ⟨Tryz.f138, Tryz.func138, by kernel_rfl⟩
noncomputable def a139 : AFn :=
⟨21,[(.t 2)],(.seq (.reg [⟨(some 2),(.q (.mv (.c .nilsl))),none,0⟩])
(.seq (.block 0 (.loop (.seq (.seq (.reg [⟨(some 3),(.q (.mv (.t 0))),none,0⟩,
⟨(some 4),(.q (.lenSl (.t 3))),none,0⟩,
⟨(some 5),(.q (.bin .gtr (.p .int) (.t 4) (.c (.int .i64 (.ofNat 0))))),none,0⟩,
⟨(some 6),(.q (.mv (.t 5))),none,0⟩,
⟨(some 7),(.q (.mv (.t 0))),(some (6,true)),0⟩,
⟨(some 8),(.q (.mv (.t 0))),(some (6,true)),0⟩,
⟨(some 9),(.q (.lenSl (.t 8))),(some (6,true)),0⟩,
⟨(some 10),(.q (.bin .sub (.p .int) (.t 9) (.c (.int .i64 (.ofNat 1))))),(some (6,true)),0⟩,
⟨(some 11),(.q (.iaddr (.slice 1) (.t 7) (.t 10))),(some (6,true)),0⟩,
⟨(some 12),(.q (.ld false 1 (.t 11))),(some (6,true)),0⟩,
⟨(some 13),(.q (.bin .eql (.p .int) (.t 12) (.c (.int .u32 (.ofNat 0))))),(some (6,true)),0⟩,
⟨(some 14),(.q (.pick (.t 6) (.t 13) (.c (.bool false)))),none,0⟩])
(.cond (.t 14) .skip (.exit 0)))
(.block 1 (.reg [⟨(some 15),(.q (.mv (.t 0))),none,0⟩,
⟨(some 16),(.q (.mv (.t 0))),none,0⟩,
⟨(some 17),(.q (.lenSl (.t 16))),none,0⟩,
⟨(some 18),(.q (.bin .sub (.p .int) (.t 17) (.c (.int .i64 (.ofNat 1))))),none,0⟩,
⟨(some 19),(.q (.slc (.slice 1) (.t 15) none (some (.t 18)) none)),none,0⟩,
⟨(some 0),(.q (.mv (.t 19))),none,0⟩])))))
(.seq (.reg [⟨(some 20),(.q (.mv (.t 0))),none,0⟩,
⟨(some 2),(.q (.mv (.t 20))),none,0⟩])
.ret)))⟩
theorem row139 : Row Tryz.prog (139, a139) := ⟨Tryz.f139, Tryz.func139, by kernel_rfl⟩
noncomputable def a140 : AFn :=
⟨20,[(.t 4)],(.seq (.reg [⟨(some 4),(.q (.mv (.c (.int .i64 (.ofNat 0))))),none,0⟩])
(.seq (.seq (.reg [⟨(some 7),(.q (.mv (.t 0))),none,0⟩,
⟨(some 8),(.x (.call (.c (.fn 151 [] [])) [(.t 7)])),none,0⟩,
⟨(some 5),(.q (.mv (.t 8))),none,0⟩])
(.seq (.reg [⟨(some 9),(.q (.mv (.t 5))),none,0⟩,
⟨(some 10),(.q (.bin .neq (.p .int) (.t 9) (.c (.int .i64 (.ofNat 0))))),none,0⟩])
(.cond (.t 10) (.seq (.reg [⟨(some 11),(.q (.mv (.t 5))),none,0⟩,
⟨(some 4),(.q (.mv (.t 11))),none,0⟩])
.ret) .skip)))
(.seq (.seq (.reg [⟨(some 12),(.q (.mv (.t 1))),none,0⟩,
⟨(some 13),(.x (.call (.c (.fn 151 [] [])) [(.t 12)])),none,0⟩,
⟨(some 6),(.q (.mv (.t 13))),none,0⟩])
(.seq (.reg [⟨(some 14),(.q (.mv (.t 6))),none,0⟩,
⟨(some 15),(.q (.bin .neq (.p .int) (.t 14) (.c (.int .i64 (.ofNat 0))))),none,0⟩])
(.cond (.t 15) (.seq (.reg [⟨(some 16),(.q (.mv (.t 6))),none,0⟩,
⟨(some 4),(.q (.mv (.t 16))),none,0⟩])
.ret) .skip)))
(.seq (.seq (.reg [⟨(some 17),(.q (.mv (.t 1))),none,0⟩,
⟨(some 18),(.q (.lenSl (.t 17))),none,0⟩,
⟨(some 19),(.q (.bin .eql (.p .int) (.t 18) (.c (.int .i64 (.ofNat 0))))),none,0⟩])
(.cond (.t 19) (.seq (.reg [⟨(some 4),(.q (.mv (.c (.int .i64 (.ofNat 6))))),none,0⟩])
.ret) .skip))
(.seq (.reg [⟨(some 4),(.q (.mv (.c (.int .i64 (.ofNat 0))))),none,0⟩])
.ret)))))⟩
theorem row140 : Row Tryz.prog (140, a140) := ⟨Tryz.f140, Tryz.func140, by kernel_rfl⟩
noncomputable def a141 : AFn :=
⟨23,[(.t 4)],(.seq (.reg [⟨(some 4),(.q (.mv (.c (.bool false)))),none,0⟩])
(.seq (.seq (.reg [⟨(some 5),(.q (.mv (.t 0))),none,0⟩,
⟨(some 6),(.q (.lenSl (.t 5))),none,0⟩,
⟨(some 7),(.q (.bin .leq (.p .int) (.t 6) (.c (.int .i64 (.ofNat 2))))),none,0⟩,
⟨(some 8),(.q (.mv (.t 7))),none,0⟩,
⟨(some 9),(.q (.mv (.t 1))),(some (8,true)),0⟩,
⟨(some 10),(.q (.lenSl (.t 9))),(some (8,true)),0⟩,
⟨(some 11),(.q (.bin .leq (.p .int) (.t 10) (.c (.int .i64 (.ofNat 2))))),(some (8,true)),0⟩,
⟨(some 12),(.q (.pick (.t 8) (.t 11) (.c (.bool false)))),none,0⟩])
(.cond (.t 12) (.seq (.reg [⟨(some 13),(.q (.mv (.t 0))),none,0⟩,
⟨(some 14),(.x (.call (.c (.fn 99 [] [])) [(.t 13)])),none,0⟩,
⟨(some 15),(.q (.mv (.t 1))),none,0⟩,
⟨(some 16),(.x (.call (.c (.fn 99 [] [])) [(.t 15)])),none,0⟩,
⟨(some 17),(.x (.call (.c (.fn 116 [] [])) [(.t 14),(.t 16)])),none,0⟩,
⟨(some 18),(.q (.bin .eql (.p .int) (.t 17) (.c (.int .u64 (.ofNat 1))))),none,0⟩,
⟨(some 4),(.q (.mv (.t 18))),none,0⟩])
.ret) .skip))
(.seq (.reg [⟨(some 19),(.q (.mv (.t 0))),none,0⟩,
⟨(some 20),(.q (.mv (.t 1))),none,0⟩,
⟨(some 21),(.x (.call (.c (.fn 100 [] [])) [(.t 19),(.t 20)])),none,0⟩,
⟨(some 22),(.x (.call (.c (.fn 117 [] [])) [(.t 21)])),none,0⟩,
⟨(some 4),(.q (.mv (.t 22))),none,0⟩])
.ret)))⟩
theorem row141 : Row Tryz.prog (141, a141) := ⟨Tryz.f141, Tryz.func141, by kernel_rfl⟩
noncomputable def a142 : AFn :=
⟨27,[(.t 4)],(.seq (.reg [⟨(some 2),(.a (.box 46 (.t 0))),none,0⟩,
⟨(some 3),(.a (.box 46 (.t 1))),none,0⟩,
⟨(some 4),(.q (.mv (.c (.bool false)))),none,0⟩])
(.seq (.reg [⟨(some 5),(.q (.faddr 1 (.t 2))),none,0⟩,
⟨(some 6),(.q (.ld false 1 (.t 5))),none,0⟩,
⟨(some 7),(.q (.lenSl (.t 6))),none,0⟩,
⟨(some 8),(.q (.bin .eql (.p .int) (.t 7) (.c (.int .i64 (.ofNat 1))))),none,0⟩,
⟨(some 9),(.q (.mv (.t 8))),none,0⟩,
⟨(some 10),(.q (.faddr 2 (.t 2))),(some (9,true)),0⟩,
⟨(some 11),(.q (.ld false 1 (.t 10))),(some (9,true)),0⟩,
⟨(some 12),(.q (.lenSl (.t 11))),(some (9,true)),0⟩,
⟨(some 13),(.q (.bin .eql (.p .int) (.t 12) (.c (.int .i64 (.ofNat 1))))),(some (9,true)),0⟩,
⟨(some 14),(.q (.pick (.t 9) (.t 13) (.c (.bool false)))),none,0⟩,
⟨(some 15),(.q (.mv (.t 14))),none,0⟩,
⟨(some 16),(.q (.faddr 1 (.t 3))),(some (15,true)),0⟩,
⟨(some 17),(.q (.ld false 1 (.t 16))),(some (15,true)),0⟩,
⟨(some 18),(.q (.lenSl (.t 17))),(some (15,true)),0⟩,
⟨(some 19),(.q (.bin .eql (.p .int) (.t 18) (.c (.int .i64 (.ofNat 1))))),(some (15,true)),0⟩,
⟨(some 20),(.q (.pick (.t 15) (.t 19) (.c (.bool false)))),none,0⟩,
⟨(some 21),(.q (.mv (.t 20))),none,0⟩,
⟨(some 22),(.q (.faddr 2 (.t 3))),(some (21,true)),0⟩,
⟨(some 23),(.q (.ld false 1 (.t 22))),(some (21,true)),0⟩,
⟨(some 24),(.q (.lenSl (.t 23))),(some (21,true)),0⟩,
⟨(some 25),(.q (.bin .eql (.p .int) (.t 24) (.c (.int .i64 (.ofNat 1))))),(some (21,true)),0⟩,
⟨(some 26),(.q (.pick (.t 21) (.t 25) (.c (.bool false)))),none,0⟩,
⟨(some 4),(.q (.mv (.t 26))),none,0⟩])
.ret))⟩
theorem row142 : Row Tryz.prog (142, a142) := ⟨Tryz.f142, Tryz.func142, by kernel_rfl⟩
noncomputable def a143 : AFn :=
⟨77,[(.t 4)],(.seq (.reg [⟨(some 4),(.q (.mv (.c .nilsl))),none,0⟩])
(.seq (.seq (.reg [⟨(some 13),(.q (.mv (.t 0))),none,0⟩,
⟨(some 14),(.q (.lenSl (.t 13))),none,0⟩,
⟨(some 15),(.q (.bin .eql (.p .int) (.t 14) (.c (.int .i64 (.ofNat 0))))),none,0⟩,
⟨(some 16),(.q (.mv (.t 15))),none,0⟩,
⟨(some 17),(.q (.mv (.t 1))),(some (16,false)),0⟩,
⟨(some 18),(.q (.lenSl (.t 17))),(some (16,false)),0⟩,
⟨(some 19),(.q (.bin .eql (.p .int) (.t 18) (.c (.int .i64 (.ofNat 0))))),(some (16,false)),0⟩,
⟨(some 20),(.q (.pick (.t 16) (.c (.bool true)) (.t 19))),none,0⟩])
(.cond (.t 20) (.seq (.reg [⟨(some 4),(.q (.mv (.c .nilsl))),none,0⟩])
.ret) .skip))
(.seq (.reg [⟨(some 21),(.q (.mv (.t 0))),none,0⟩,
⟨(some 22),(.q (.lenSl (.t 21))),none,0⟩,
⟨(some 23),(.q (.mv (.t 1))),none,0⟩,
⟨(some 24),(.q (.lenSl (.t 23))),none,0⟩,
⟨(some 25),(.q (.bin .add (.p .int) (.t 22) (.t 24))),none,0⟩,
⟨(some 26),(.a (.mkSlice 97 1 4 [(.int .u32 (.ofNat 0))] (.t 25) (.t 25))),none,0⟩,
⟨(some 5),(.q (.mv (.t 26))),none,0⟩])
(.seq (.seq (.reg [⟨(some 27),(.q (.mv (.t 0))),none,0⟩,
⟨(some 28),(.q (.lenSl (.t 27))),none,0⟩,
⟨(some 29),(.q (.mv (.c (.int .i64 (.ofNat 0))))),none,0⟩])
(.block 0 (.loop (.seq (.reg [⟨(some 30),(.q (.bin .lss (.p .int) (.t 29) (.t 28))),none,0⟩])
(.seq (.cond (.t 30) .skip (.exit 0))
(.seq (.block 1 (.seq (.reg [⟨(some 31),(.q (.mv (.t 29))),none,0⟩,
⟨(some 32),(.q (.iaddr (.slice 1) (.t 27) (.t 29))),none,0⟩,
⟨(some 33),(.q (.ld false 1 (.t 32))),none,0⟩,
⟨(some 6),(.q (.mv (.t 31))),none,0⟩,
⟨(some 7),(.q (.mv (.t 33))),none,0⟩])
(.seq (.reg [⟨(some 34),(.q (.mv (.t 5))),none,0⟩,
⟨(some 35),(.q (.mv (.t 6))),none,0⟩,
⟨(some 36),(.q (.slc (.slice 1) (.t 34) (some (.t 35)) none none)),none,0⟩,
⟨(some 8),(.q (.mv (.t 36))),none,0⟩])
(.seq (.reg [⟨(some 9),(.q (.mv (.c (.int .u64 (.ofNat 0))))),none,0⟩])
(.seq (.seq (.reg [⟨(some 37),(.q (.mv (.t 1))),none,0⟩,
⟨(some 38),(.q (.lenSl (.t 37))),none,0⟩,
⟨(some 39),(.q (.mv (.c (.int .i64 (.ofNat 0))))),none,0⟩])
(.block 2 (.loop (.seq (.reg [⟨(some 40),(.q (.bin .lss (.p .int) (.t 39) (.t 38))),none,0⟩])
(.seq (.cond (.t 40) .skip (.exit 2))
(.seq (.block 3 (.seq (.reg [⟨(some 41),(.q (.mv (.t 39))),none,0⟩,
⟨(some 42),(.q (.iaddr (.slice 1) (.t 37) (.t 39))),none,0⟩,
⟨(some 43),(.q (.ld false 1 (.t 42))),none,0⟩,
⟨(some 10),(.q (.mv (.t 41))),none,0⟩,
⟨(some 11),(.q (.mv (.t 43))),none,0⟩])
(.seq (.reg [⟨(some 44),(.q (.mv (.t 7))),none,0⟩,
⟨(some 45),(.q (.conv (.int .u64) (.t 44))),none,0⟩,
⟨(some 46),(.q (.mv (.t 11))),none,0⟩,
⟨(some 47),(.q (.conv (.int .u64) (.t 46))),none,0⟩,
⟨(some 48),(.q (.bin .mul (.p .int) (.t 45) (.t 47))),none,0⟩,
⟨(some 49),(.q (.mv (.t 8))),none,0⟩,
⟨(some 50),(.q (.mv (.t 10))),none,0⟩,
⟨(some 51),(.q (.iaddr (.slice 1) (.t 49) (.t 50))),none,0⟩,
⟨(some 52),(.q (.ld false 1 (.t 51))),none,0⟩,
⟨(some 53),(.q (.conv (.int .u64) (.t 52))),none,0⟩,
⟨(some 54),(.q (.bin .add (.p .int) (.t 48) (.t 53))),none,0⟩,
⟨(some 55),(.q (.mv (.t 9))),none,0⟩,
⟨(some 56),(.q (.bin .add (.p .int) (.t 54) (.t 55))),none,0⟩,
⟨(some 12),(.q (.mv (.t 56))),none,0⟩])
(.seq (.reg [⟨(some 57),(.q (.mv (.t 12))),none,0⟩,
⟨(some 58),(.q (.bin .quo (.p .int) (.t 57) (.c (.int .u64 (.ofNat 1000000000))))),none,0⟩,
⟨(some 9),(.q (.mv (.t 58))),none,0⟩])
(.reg [⟨(some 59),(.q (.mv (.t 8))),none,0⟩,
⟨(some 60),(.q (.mv (.t 10))),none,0⟩,
⟨(some 61),(.q (.mv (.t 12))),none,0⟩,
⟨(some 62),(.q (.mv (.t 9))),none,0⟩,
⟨(some 63),(.q (.bin .mul (.p .int) (.t 62) (.c (.int .u64 (.ofNat 1000000000))))),none,0⟩,
⟨(some 64),(.q (.bin .sub (.p .int) (.t 61) (.t 63))),none,0⟩,
⟨(some 65),(.q (.conv (.int .u32) (.t 64))),none,0⟩,
⟨(some 66),(.q (.iaddr (.slice 1) (.t 59) (.t 60))),none,0⟩,
⟨none,(.x (.st 1 (.t 66) (.t 65))),none,0⟩])))))
(.reg [⟨(some 67),(.q (.bin .add (.p .int) (.t 39) (.c (.int .i64 (.ofNat 1))))),none,0⟩,
⟨(some 39),(.q (.mv (.t 67))),none,0⟩])))))))
(.reg [⟨(some 68),(.q (.mv (.t 8))),none,0⟩,
⟨(some 69),(.q (.mv (.t 1))),none,0⟩,
⟨(some 70),(.q (.lenSl (.t 69))),none,0⟩,
⟨(some 71),(.q (.mv (.t 9))),none,0⟩,
⟨(some 72),(.q (.conv (.int .u32) (.t 71))),none,0⟩,
⟨(some 73),(.q (.iaddr (.slice 1) (.t 68) (.t 70))),none,0⟩,
⟨none,(.x (.st 1 (.t 73) (.t 72))),none,0⟩]))))))
(.reg [⟨(some 74),(.q (.bin .add (.p .int) (.t 29) (.c (.int .i64 (.ofNat 1))))),none,0⟩,
⟨(some 29),(.q (.mv (.t 74))),none,0⟩])))))))
(.seq (.reg [⟨(some 75),(.q (.mv (.t 5))),none,0⟩,
⟨(some 76),(.x (.call (.c (.fn 139 [] [])) [(.t 75)])),none,0⟩,
⟨(some 4),(.q (.mv (.t 76))),none,0⟩])
.ret)))))⟩
theorem row143 : Row Tryz.prog (143, a143) := ⟨Tryz.f143, Tryz.func143, by kernel_rfl⟩
noncomputable def a144 : AFn :=
⟨13,[(.t 2)],(.seq (.reg [⟨(some 1),(.a (.box 46 (.t 0))),none,0⟩,
⟨(some 2),(.q (.mv (.c (.bool false)))),none,0⟩])
(.seq (.reg [⟨(some 3),(.q (.faddr 1 (.t 1))),none,0⟩,
⟨(some 4),(.q (.ld false 1 (.t 3))),none,0⟩,
⟨(some 5),(.q (.lenSl (.t 4))),none,0⟩,
⟨(some 6),(.q (.bin .leq (.p .int) (.t 5) (.c (.int .i64 (.ofNat 1024))))),none,0⟩,
⟨(some 7),(.q (.mv (.t 6))),none,0⟩,
⟨(some 8),(.q (.faddr 2 (.t 1))),(some (7,true)),0⟩,
⟨(some 9),(.q (.ld false 1 (.t 8))),(some (7,true)),0⟩,
⟨(some 10),(.q (.lenSl (.t 9))),(some (7,true)),0⟩,
⟨(some 11),(.q (.bin .leq (.p .int) (.t 10) (.c (.int .i64 (.ofNat 1024))))),(some (7,true)),0⟩,
⟨(some 12),(.q (.pick (.t 7) (.t 11) (.c (.bool false)))),none,0⟩,
⟨(some 2),(.q (.mv (.t 12))),none,0⟩])
.ret))⟩
theorem row144 : Row Tryz.prog (144, a144) := ⟨Tryz.f144, Tryz.func144, by kernel_rfl⟩
noncomputable def a145 : AFn :=
⟨12,[(.cell 2 true 3)],(.seq (.reg [⟨(some 1),(.a (.box 46 (.t 0))),none,0⟩,
⟨(some 2),(.a (.alloc 46 [(.bool false),.nilsl,.nilsl])),none,0⟩])
(.seq (.drw [⟨(some 3),(.q (.faddr 0 (.t 1))),none,0⟩,
⟨(some 4),(.q (.ld false 1 (.t 3))),none,1⟩,
⟨(some 5),(.q (.faddr 1 (.t 1))),none,0⟩,
⟨(some 6),(.q (.ld false 1 (.t 5))),none,4⟩,
⟨(some 7),(.x (.call (.c (.fn 101 [] [])) [(.t 6)])),none,12⟩,
⟨(some 8),(.q (.faddr 2 (.t 1))),none,0⟩,
⟨(some 9),(.q (.ld false 1 (.t 8))),none,32⟩,
⟨(some 10),(.x (.call (.c (.fn 101 [] [])) [(.t 9)])),none,124⟩,
⟨(some 11),(.q (.build [(.bool false),.nilsl,.nilsl] [(0,1,(.t 4)),(1,1,(.t 7)),(2,1,(.t 10))])),none,255⟩,
⟨none,(.x (.st 3 (.t 2) (.t 11))),none,511⟩])
.ret))⟩
theorem row145 : Row Tryz.prog (145, a145) := ⟨Tryz.f145, Tryz.func145, by kernel_rfl⟩
noncomputable def a146 : AFn :=
⟨74,[(.cell 4 true 3)],(.seq (.reg [⟨(some 2),(.a (.box 46 (.t 0))),none,0⟩,
⟨(some 3),(.a (.box 46 (.t 1))),none,0⟩,
⟨(some 4),(.a (.alloc 46 [(.bool false),.nilsl,.nilsl])),none,0⟩])
(.seq (.drw [⟨(some 8),(.q (.faddr 1 (.t 2))),none,0⟩,
⟨(some 9),(.q (.ld false 1 (.t 8))),none,1⟩,
⟨(some 10),(.q (.iaddr (.slice 1) (.t 9) (.c (.int .i64 (.ofNat 0))))),none,3⟩,
⟨(some 11),(.q (.ld false 1 (.t 10))),none,7⟩,
⟨(some 12),(.q (.conv (.int .u64) (.t 11))),none,15⟩,
⟨(some 13),(.q (.faddr 2 (.t 3))),none,0⟩,
⟨(some 14),(.q (.ld false 1 (.t 13))),none,32⟩,
⟨(some 15),(.q (.iaddr (.slice 1) (.t 14) (.c (.int .i64 (.ofNat 0))))),none,96⟩,
⟨(some 16),(.q (.ld false 1 (.t 15))),none,224⟩,
⟨(some 17),(.q (.conv (.int .u64) (.t 16))),none,480⟩,
⟨(some 18),(.q (.bin .mul (.p .int) (.t 12) (.t 17))),none,1023⟩,
⟨(some 19),(.q (.faddr 1 (.t 3))),none,0⟩,
⟨(some 20),(.q (.ld false 1 (.t 19))),none,2048⟩,
⟨(some 21),(.q (.iaddr (.slice 1) (.t 20) (.c (.int .i64 (.ofNat 0))))),none,6144⟩,
⟨(some 22),(.q (.ld false 1 (.t 21))),none,14336⟩,
⟨(some 23),(.q (.conv (.int .u64) (.t 22))),none,30720⟩,
⟨(some 24),(.q (.faddr 2 (.t 2))),none,0⟩,
⟨(some 25),(.q (.ld false 1 (.t 24))),none,65536⟩,
⟨(some 26),(.q (.iaddr (.slice 1) (.t 25) (.c (.int .i64 (.ofNat 0))))),none,196608⟩,
⟨(some 27),(.q (.ld false 1 (.t 26))),none,458752⟩,
⟨(some 28),(.q (.conv (.int .u64) (.t 27))),none,983040⟩,
⟨(some 29),(.q (.bin .mul (.p .int) (.t 23) (.t 28))),none,2095104⟩,
⟨(some 5),(.q (.mv (.t 18))),none,2047⟩,
⟨(some 6),(.q (.mv (.t 29))),none,8388607⟩])
(.seq (.drw [⟨(some 30),(.q (.faddr 2 (.t 2))),none,0⟩,
⟨(some 31),(.q (.ld false 1 (.t 30))),none,1⟩,
⟨(some 32),(.q (.iaddr (.slice 1) (.t 31) (.c (.int .i64 (.ofNat 0))))),none,3⟩,
⟨(some 33),(.q (.ld false 1 (.t 32))),none,7⟩,
⟨(some 34),(.q (.conv (.int .u64) (.t 33))),none,15⟩,
⟨(some 35),(.q (.faddr 2 (.t 3))),none,0⟩,
⟨(some 36),(.q (.ld false 1 (.t 35))),none,32⟩,
⟨(some 37),(.q (.iaddr (.slice 1) (.t 36) (.c (.int .i64 (.ofNat 0))))),none,96⟩,
⟨(some 38),(.q (.ld false 1 (.t 37))),none,224⟩,
⟨(some 39),(.q (.conv (.int .u64) (.t 38))),none,480⟩,
⟨(some 40),(.q (.bin .mul (.p .int) (.t 34) (.t 39))),none,1023⟩,
⟨(some 7),(.q (.mv (.t 40))),none,2047⟩])
(.seq (.seq (.reg [⟨(some 41),(.q (.faddr 0 (.t 2))),none,0⟩,
⟨(some 42),(.q (.ld false 1 (.t 41))),none,0⟩,
⟨(some 43),(.q (.faddr 0 (.t 3))),none,0⟩,
⟨(some 44),(.q (.ld false 1 (.t 43))),none,0⟩,
⟨(some 45),(.q (.bin .eql (.p .bool) (.t 42) (.t 44))),none,0⟩])
(.cond (.t 45) (.seq (.reg [⟨(some 46),(.q (.faddr 0 (.t 2))),none,0⟩,
⟨(some 47),(.q (.ld false 1 (.t 46))),none,0⟩,
⟨(some 48),(.q (.mv (.t 5))),none,0⟩,
⟨(some 49),(.q (.mv (.t 6))),none,0⟩,
⟨(some 50),(.q (.bin .add (.p .int) (.t 48) (.t 49))),none,0⟩,
⟨(some 51),(.q (.mv (.t 7))),none,0⟩,
⟨(some 52),(.x (.call (.c (.fn 98 [] [])) [(.t 47),(.t 50),(.t 51)])),none,0⟩,
⟨none,(.x (.st 3 (.t 4) (.t 52))),none,0⟩])
.ret) .skip))
(.seq (.seq (.reg [⟨(some 53),(.q (.mv (.t 5))),none,0⟩,
⟨(some 54),(.q (.mv (.t 6))),none,0⟩,
⟨(some 55),(.q (.bin .eql (.p .int) (.t 53) (.t 54))),none,0⟩])
(.cond (.t 55) (.seq (.reg [⟨(some 56),(.x (.call (.c (.fn 97 [] [])) [])),none,0⟩,
⟨none,(.x (.st 3 (.t 4) (.t 56))),none,0⟩])
.ret) .skip))
(.seq (.seq (.reg [⟨(some 57),(.q (.mv (.t 5))),none,0⟩,
⟨(some 58),(.q (.mv (.t 6))),none,0⟩,
⟨(some 59),(.q (.bin .gtr (.p .int) (.t 57) (.t 58))),none,0⟩])
(.cond (.t 59) (.seq (.reg [⟨(some 60),(.q (.faddr 0 (.t 2))),none,0⟩,
⟨(some 61),(.q (.ld false 1 (.t 60))),none,0⟩,
⟨(some 62),(.q (.mv (.t 5))),none,0⟩,
⟨(some 63),(.q (.mv (.t 6))),none,0⟩,
⟨(some 64),(.q (.bin .sub (.p .int) (.t 62) (.t 63))),none,0⟩,
⟨(some 65),(.q (.mv (.t 7))),none,0⟩,
⟨(some 66),(.x (.call (.c (.fn 98 [] [])) [(.t 61),(.t 64),(.t 65)])),none,0⟩,
⟨none,(.x (.st 3 (.t 4) (.t 66))),none,0⟩])
.ret) .skip))
(.seq (.reg [⟨(some 67),(.q (.faddr 0 (.t 3))),none,0⟩,
⟨(some 68),(.q (.ld false 1 (.t 67))),none,0⟩,
⟨(some 69),(.q (.mv (.t 6))),none,0⟩,
⟨(some 70),(.q (.mv (.t 5))),none,0⟩,
⟨(some 71),(.q (.bin .sub (.p .int) (.t 69) (.t 70))),none,0⟩,
⟨(some 72),(.q (.mv (.t 7))),none,0⟩,
⟨(some 73),(.x (.call (.c (.fn 98 [] [])) [(.t 68),(.t 71),(.t 72)])),none,0⟩,
⟨none,(.x (.st 3 (.t 4) (.t 73))),none,0⟩])
.ret)))))))⟩
theorem row146 : Row Tryz.prog (146, a146) := ⟨Tryz.f146, Tryz.func146, by kernel_rfl⟩
noncomputable def a147 : AFn :=
⟨29,[(.t 8),(.t 9)],(.seq (.reg [⟨(some 8),(.q (.mv (.c (.bool false)))),none,0⟩,
⟨(some 9),(.q (.mv (.c .nilsl))),none,0⟩])
(.seq (.seq (.reg [⟨(some 10),(.q (.mv (.t 0))),none,0⟩,
⟨(some 11),(.q (.mv (.t 2))),none,0⟩,
⟨(some 12),(.q (.bin .eql (.p .bool) (.t 10) (.t 11))),none,0⟩])
(.cond (.t 12) (.seq (.reg [⟨(some 13),(.q (.mv (.t 0))),none,0⟩,
⟨(some 14),(.q (.mv (.t 1))),none,0⟩,
⟨(some 15),(.q (.mv (.t 3))),none,0⟩,
⟨(some 16),(.x (.call (.c (.fn 152 [] [])) [(.t 14),(.t 15)])),none,0⟩,
⟨(some 8),(.q (.mv (.t 13))),none,0⟩,
⟨(some 9),(.q (.mv (.t 16))),none,0⟩])
.ret) .skip))
(.seq (.seq (.reg [⟨(some 17),(.q (.mv (.t 1))),none,0⟩,
⟨(some 18),(.q (.mv (.t 3))),none,0⟩,
⟨(some 19),(.x (.call (.c (.fn 118 [] [])) [(.t 17),(.t 18)])),none,0⟩,
⟨(some 20),(.q (.bin .geq (.p .int) (.t 19) (.c (.int .i64 (.ofNat 0))))),none,0⟩])
(.cond (.t 20) (.seq (.reg [⟨(some 21),(.q (.mv (.t 0))),none,0⟩,
⟨(some 22),(.q (.mv (.t 1))),none,0⟩,
⟨(some 23),(.q (.mv (.t 3))),none,0⟩,
⟨(some 24),(.x (.call (.c (.fn 153 [] [])) [(.t 22),(.t 23)])),none,0⟩,
⟨(some 8),(.q (.mv (.t 21))),none,0⟩,
⟨(some 9),(.q (.mv (.t 24))),none,0⟩])
.ret) .skip))
(.seq (.reg [⟨(some 25),(.q (.mv (.t 2))),none,0⟩,
⟨(some 26),(.q (.mv (.t 3))),none,0⟩,
⟨(some 27),(.q (.mv (.t 1))),none,0⟩,
⟨(some 28),(.x (.call (.c (.fn 153 [] [])) [(.t 26),(.t 27)])),none,0⟩,
⟨(some 8),(.q (.mv (.t 25))),none,0⟩,
⟨(some 9),(.q (.mv (.t 28))),none,0⟩])
.ret))))⟩
theorem row147 : Row Tryz.prog (147, a147) := ⟨Tryz.f147, Tryz.func147, by kernel_rfl⟩
noncomputable def a148 : AFn :=
⟨9,[(.t 4)],(.seq (.reg [⟨(some 4),(.q (.mv (.c (.bool false)))),none,0⟩])
(.seq (.reg [⟨(some 5),(.q (.mv (.t 0))),none,0⟩,
⟨(some 6),(.q (.mv (.t 1))),none,0⟩,
⟨(some 7),(.x (.call (.c (.fn 154 [] [])) [(.t 5),(.t 6)])),none,0⟩,
⟨(some 8),(.q (.bin .geq (.p .int) (.t 7) (.c (.int .i64 (.ofNat 0))))),none,0⟩,
⟨(some 4),(.q (.mv (.t 8))),none,0⟩])
.ret))⟩
theorem row148 : Row Tryz.prog (148, a148) := ⟨Tryz.f148, Tryz.func148, by kernel_rfl⟩
noncomputable def a149 : AFn :=
⟨13,[(.t 4)],(.seq (.reg [⟨(some 4),(.q (.mv (.c (.bool false)))),none,0⟩])
(.seq (.reg [⟨(some 5),(.q (.mv (.t 0))),none,0⟩,
⟨(some 6),(.q (.ld false 1 (.t 1))),none,0⟩,
⟨(some 7),(.q (.bin .lss (.p .int) (.t 5) (.t 6))),none,0⟩,
⟨(some 8),(.q (.mv (.t 7))),none,0⟩,
⟨(some 9),(.q (.mv (.t 0))),(some (8,false)),0⟩,
⟨(some 10),(.q (.ld false 1 (.t 2))),(some (8,false)),0⟩,
⟨(some 11),(.q (.bin .gtr (.p .int) (.t 9) (.t 10))),(some (8,false)),0⟩,
⟨(some 12),(.q (.pick (.t 8) (.c (.bool true)) (.t 11))),none,0⟩,
⟨(some 4),(.q (.mv (.t 12))),none,0⟩])
.ret))⟩
theorem row149 : Row Tryz.prog (149, a149) := ⟨Tryz.f149, Tryz.func149, by kernel_rfl⟩
noncomputable def a150 : AFn :=
⟨6,[(.t 2)],(.seq (.reg [⟨(some 2),(.q (.mv (.c (.bool false)))),none,0⟩])
(.seq (.reg [⟨(some 3),(.q (.mv (.t 0))),none,0⟩,
⟨(some 4),(.q (.mv (.t 0))),none,0⟩,
⟨(some 5),(.q (.bin .neq (.p .int) (.t 3) (.t 4))),none,0⟩,
⟨(some 2),(.q (.mv (.t 5))),none,0⟩])
.ret))⟩
theorem row150 : Row Tryz.prog (150, a150) := ⟨Tryz.f150, Tryz.func150, by kernel_rfl⟩
noncomputable def a151 : AFn :=
⟨29,[(.t 2)],(.seq (.reg [⟨(some 2),(.q (.mv (.c (.int .i64 (.ofNat 0))))),none,0⟩])
(.seq (.seq (.reg [⟨(some 5),(.q (.mv (.t 0))),none,0⟩,
⟨(some 6),(.q (.lenSl (.t 5))),none,0⟩,
⟨(some 7),(.q (.bin .gtr (.p .int) (.t 6) (.c (.int .i64 (.ofNat 1024))))),none,0⟩])
(.cond (.t 7) (.seq (.reg [⟨(some 2),(.q (.mv (.c (.int .i64 (.ofNat 4))))),none,0⟩])
.ret) .skip))
(.seq (.seq (.reg [⟨(some 8),(.q (.mv (.t 0))),none,0⟩,
⟨(some 9),(.q (.lenSl (.t 8))),none,0⟩,
⟨(some 10),(.q (.mv (.c (.int .i64 (.ofNat 0))))),none,0⟩])
(.block 0 (.loop (.seq (.reg [⟨(some 11),(.q (.bin .lss (.p .int) (.t 10) (.t 9))),none,0⟩])
(.seq (.cond (.t 11) .skip (.exit 0))
(.seq (.block 1 (.seq (.reg [⟨(some 12),(.q (.iaddr (.slice 1) (.t 8) (.t 10))),none,0⟩,
⟨(some 13),(.q (.ld false 1 (.t 12))),none,0⟩,
⟨(some 4),(.q (.mv (.t 13))),none,0⟩])
(.seq (.reg [⟨(some 14),(.q (.mv (.t 4))),none,0⟩,
⟨(some 15),(.q (.bin .geq (.p .int) (.t 14) (.c (.int .u32 (.ofNat 1000000000))))),none,0⟩])
(.cond (.t 15) (.seq (.reg [⟨(some 2),(.q (.mv (.c (.int .i64 (.ofNat 3))))),none,0⟩])
.ret) .skip))))
(.reg [⟨(some 16),(.q (.bin .add (.p .int) (.t 10) (.c (.int .i64 (.ofNat 1))))),none,0⟩,
⟨(some 10),(.q (.mv (.t 16))),none,0⟩])))))))
(.seq (.seq (.reg [⟨(some 17),(.q (.mv (.t 0))),none,0⟩,
⟨(some 18),(.q (.lenSl (.t 17))),none,0⟩,
⟨(some 19),(.q (.bin .gtr (.p .int) (.t 18) (.c (.int .i64 (.ofNat 0))))),none,0⟩,
⟨(some 20),(.q (.mv (.t 19))),none,0⟩,
⟨(some 21),(.q (.mv (.t 0))),(some (20,true)),0⟩,
⟨(some 22),(.q (.mv (.t 0))),(some (20,true)),0⟩,
⟨(some 23),(.q (.lenSl (.t 22))),(some (20,true)),0⟩,
⟨(some 24),(.q (.bin .sub (.p .int) (.t 23) (.c (.int .i64 (.ofNat 1))))),(some (20,true)),0⟩,
⟨(some 25),(.q (.iaddr (.slice 1) (.t 21) (.t 24))),(some (20,true)),0⟩,
⟨(some 26),(.q (.ld false 1 (.t 25))),(some (20,true)),0⟩,
⟨(some 27),(.q (.bin .eql (.p .int) (.t 26) (.c (.int .u32 (.ofNat 0))))),(some (20,true)),0⟩,
⟨(some 28),(.q (.pick (.t 20) (.t 27) (.c (.bool false)))),none,0⟩])
(.cond (.t 28) (.seq (.reg [⟨(some 2),(.q (.mv (.c (.int .i64 (.ofNat 3))))),none,0⟩])
.ret) .skip))
(.seq (.reg [⟨(some 2),(.q (.mv (.c (.int .i64 (.ofNat 0))))),none,0⟩])
.ret)))))⟩
theorem row151 : Row Tryz.prog (151, a151) := ⟨Tryz.f151, Tryz.func151, by kernel_rfl⟩
noncomputable def a152 : AFn :=
⟨57,[(.t 4)],(.seq (.reg [⟨(some 4),(.q (.mv (.c .nilsl))),none,0⟩])
(.seq (.seq (.reg [⟨(some 10),(.q (.mv (.t 0))),none,0⟩,
⟨(some 11),(.q (.lenSl (.t 10))),none,0⟩,
⟨(some 12),(.q (.mv (.t 1))),none,0⟩,
⟨(some 13),(.q (.lenSl (.t 12))),none,0⟩,
⟨(some 14),(.q (.bin .lss (.p .int) (.t 11) (.t 13))),none,0⟩])
(.cond (.t 14) (.reg [⟨(some 15),(.q (.mv (.t 1))),none,0⟩,
⟨(some 16),(.q (.mv (.t 0))),none,0⟩,
⟨(some 0),(.q (.mv (.t 15))),none,0⟩,
⟨(some 1),(.q (.mv (.t 16))),none,0⟩]) .skip))
(.seq (.reg [⟨(some 17),(.q (.mv (.t 0))),none,0⟩,
⟨(some 18),(.q (.lenSl (.t 17))),none,0⟩,
⟨(some 19),(.q (.bin .add (.p .int) (.t 18) (.c (.int .i64 (.ofNat 1))))),none,0⟩,
⟨(some 20),(.a (.mkSlice 97 1 4 [(.int .u32 (.ofNat 0))] (.c (.int .i64 (.ofNat 0))) (.t 19))),none,0⟩,
⟨(some 5),(.q (.mv (.t 20))),none,0⟩])
(.seq (.reg [⟨(some 6),(.q (.mv (.c (.int .u32 (.ofNat 0))))),none,0⟩])
(.seq (.seq (.reg [⟨(some 21),(.q (.mv (.t 0))),none,0⟩,
⟨(some 22),(.q (.lenSl (.t 21))),none,0⟩,
⟨(some 23),(.q (.mv (.c (.int .i64 (.ofNat 0))))),none,0⟩])
(.block 0 (.loop (.seq (.reg [⟨(some 24),(.q (.bin .lss (.p .int) (.t 23) (.t 22))),none,0⟩])
(.seq (.cond (.t 24) .skip (.exit 0))
(.seq (.block 1 (.seq (.reg [⟨(some 25),(.q (.mv (.t 23))),none,0⟩,
⟨(some 26),(.q (.iaddr (.slice 1) (.t 21) (.t 23))),none,0⟩,
⟨(some 27),(.q (.ld false 1 (.t 26))),none,0⟩,
⟨(some 7),(.q (.mv (.t 25))),none,0⟩,
⟨(some 8),(.q (.mv (.t 27))),none,0⟩])
(.seq (.reg [⟨(some 28),(.q (.mv (.t 8))),none,0⟩,
⟨(some 29),(.q (.mv (.t 6))),none,0⟩,
⟨(some 30),(.q (.bin .add (.p .int) (.t 28) (.t 29))),none,0⟩,
⟨(some 9),(.q (.mv (.t 30))),none,0⟩])
(.seq (.seq (.reg [⟨(some 31),(.q (.mv (.t 7))),none,0⟩,
⟨(some 32),(.q (.mv (.t 1))),none,0⟩,
⟨(some 33),(.q (.lenSl (.t 32))),none,0⟩,
⟨(some 34),(.q (.bin .lss (.p .int) (.t 31) (.t 33))),none,0⟩])
(.cond (.t 34) (.reg [⟨(some 35),(.q (.mv (.t 9))),none,0⟩,
⟨(some 36),(.q (.mv (.t 1))),none,0⟩,
⟨(some 37),(.q (.mv (.t 7))),none,0⟩,
⟨(some 38),(.q (.iaddr (.slice 1) (.t 36) (.t 37))),none,0⟩,
⟨(some 39),(.q (.ld false 1 (.t 38))),none,0⟩,
⟨(some 40),(.q (.bin .add (.p .int) (.t 35) (.t 39))),none,0⟩,
⟨(some 9),(.q (.mv (.t 40))),none,0⟩]) .skip))
(.seq (.reg [⟨(some 6),(.q (.mv (.c (.int .u32 (.ofNat 0))))),none,0⟩])
(.seq (.seq (.reg [⟨(some 41),(.q (.mv (.t 9))),none,0⟩,
⟨(some 42),(.q (.bin .geq (.p .int) (.t 41) (.c (.int .u32 (.ofNat 1000000000))))),none,0⟩])
(.cond (.t 42) (.seq (.reg [⟨(some 43),(.q (.mv (.t 9))),none,0⟩,
⟨(some 44),(.q (.bin .sub (.p .int) (.t 43) (.c (.int .u32 (.ofNat 1000000000))))),none,0⟩,
⟨(some 9),(.q (.mv (.t 44))),none,0⟩])
(.reg [⟨(some 6),(.q (.mv (.c (.int .u32 (.ofNat 1))))),none,0⟩])) .skip))
(.reg [⟨(some 45),(.q (.mv (.t 5))),none,0⟩,
⟨(some 46),(.q (.mv (.t 9))),none,0⟩,
⟨(some 47),(.a (.bslice 97 1 1 [(.int .u32 (.ofNat 0))] [(0,(.t 46))])),none,0⟩,
⟨(some 48),(.x (.app 97 1 4 (.t 45) (.t 47))),none,0⟩,
⟨(some 5),(.q (.mv (.t 48))),none,0⟩])))))))
(.reg [⟨(some 49),(.q (.bin .add (.p .int) (.t 23) (.c (.int .i64 (.ofNat 1))))),none,0⟩,
⟨(some 23),(.q (.mv (.t 49))),none,0⟩])))))))
(.seq (.seq (.reg [⟨(some 50),(.q (.mv (.t 6))),none,0⟩,
⟨(some 51),(.q (.bin .gtr (.p .int) (.t 50) (.c (.int .u32 (.ofNat 0))))),none,0⟩])
(.cond (.t 51) (.reg [⟨(some 52),(.q (.mv (.t 5))),none,0⟩,
⟨(some 53),(.q (.mv (.t 6))),none,0⟩,
⟨(some 54),(.a (.bslice 97 1 1 [(.int .u32 (.ofNat 0))] [(0,(.t 53))])),none,0⟩,
⟨(some 55),(.x (.app 97 1 4 (.t 52) (.t 54))),none,0⟩,
⟨(some 5),(.q (.mv (.t 55))),none,0⟩]) .skip))
(.seq (.reg [⟨(some 56),(.q (.mv (.t 5))),none,0⟩,
⟨(some 4),(.q (.mv (.t 56))),none,0⟩])
.ret)))))))⟩
theorem row152 : Row Tryz.prog (152, a152) := ⟨Tryz.f152, Tryz.func152, by kernel_rfl⟩
noncomputable def a153 : AFn :=
⟨47,[(.t 4)],(.seq (.reg [⟨(some 4),(.q (.mv (.c .nilsl))),none,0⟩])
(.seq (.reg [⟨(some 10),(.q (.mv (.t 0))),none,0⟩,
⟨(some 11),(.q (.lenSl (.t 10))),none,0⟩,
⟨(some 12),(.a (.mkSlice 97 1 4 [(.int .u32 (.ofNat 0))] (.t 11) (.t 11))),none,0⟩,
⟨(some 5),(.q (.mv (.t 12))),none,0⟩])
(.seq (.reg [⟨(some 6),(.q (.mv (.c (.int .i64 (.ofNat 0))))),none,0⟩])
(.seq (.seq (.reg [⟨(some 13),(.q (.mv (.t 0))),none,0⟩,
⟨(some 14),(.q (.lenSl (.t 13))),none,0⟩,
⟨(some 15),(.q (.mv (.c (.int .i64 (.ofNat 0))))),none,0⟩])
(.block 0 (.loop (.seq (.reg [⟨(some 16),(.q (.bin .lss (.p .int) (.t 15) (.t 14))),none,0⟩])
(.seq (.cond (.t 16) .skip (.exit 0))
(.seq (.block 1 (.seq (.reg [⟨(some 17),(.q (.mv (.t 15))),none,0⟩,
⟨(some 18),(.q (.iaddr (.slice 1) (.t 13) (.t 15))),none,0⟩,
⟨(some 19),(.q (.ld false 1 (.t 18))),none,0⟩,
⟨(some 7),(.q (.mv (.t 17))),none,0⟩,
⟨(some 8),(.q (.mv (.t 19))),none,0⟩])
(.seq (.reg [⟨(some 20),(.q (.mv (.t 8))),none,0⟩,
⟨(some 21),(.q (.conv (.int .i64) (.t 20))),none,0⟩,
⟨(some 22),(.q (.mv (.t 6))),none,0⟩,
⟨(some 23),(.q (.bin .sub (.p .int) (.t 21) (.t 22))),none,0⟩,
⟨(some 9),(.q (.mv (.t 23))),none,0⟩])
(.seq (.seq (.reg [⟨(some 24),(.q (.mv (.t 7))),none,0⟩,
⟨(some 25),(.q (.mv (.t 1))),none,0⟩,
⟨(some 26),(.q (.lenSl (.t 25))),none,0⟩,
⟨(some 27),(.q (.bin .lss (.p .int) (.t 24) (.t 26))),none,0⟩])
(.cond (.t 27) (.reg [⟨(some 28),(.q (.mv (.t 9))),none,0⟩,
⟨(some 29),(.q (.mv (.t 1))),none,0⟩,
⟨(some 30),(.q (.mv (.t 7))),none,0⟩,
⟨(some 31),(.q (.iaddr (.slice 1) (.t 29) (.t 30))),none,0⟩,
⟨(some 32),(.q (.ld false 1 (.t 31))),none,0⟩,
⟨(some 33),(.q (.conv (.int .i64) (.t 32))),none,0⟩,
⟨(some 34),(.q (.bin .sub (.p .int) (.t 28) (.t 33))),none,0⟩,
⟨(some 9),(.q (.mv (.t 34))),none,0⟩]) .skip))
(.seq (.reg [⟨(some 6),(.q (.mv (.c (.int .i64 (.ofNat 0))))),none,0⟩])
(.seq (.seq (.reg [⟨(some 35),(.q (.mv (.t 9))),none,0⟩,
⟨(some 36),(.q (.bin .lss (.p .int) (.t 35) (.c (.int .i64 (.ofNat 0))))),none,0⟩])
(.cond (.t 36) (.seq (.reg [⟨(some 37),(.q (.mv (.t 9))),none,0⟩,
⟨(some 38),(.q (.bin .add (.p .int) (.t 37) (.c (.int .i64 (.ofNat 1000000000))))),none,0⟩,
⟨(some 9),(.q (.mv (.t 38))),none,0⟩])
(.reg [⟨(some 6),(.q (.mv (.c (.int .i64 (.ofNat 1))))),none,0⟩])) .skip))
(.reg [⟨(some 39),(.q (.mv (.t 5))),none,0⟩,
⟨(some 40),(.q (.mv (.t 7))),none,0⟩,
⟨(some 41),(.q (.mv (.t 9))),none,0⟩,
⟨(some 42),(.q (.conv (.int .u32) (.t 41))),none,0⟩,
⟨(some 43),(.q (.iaddr (.slice 1) (.t 39) (.t 40))),none,0⟩,
⟨none,(.x (.st 1 (.t 43) (.t 42))),none,0⟩])))))))
(.reg [⟨(some 44),(.q (.bin .add (.p .int) (.t 15) (.c (.int .i64 (.ofNat 1))))),none,0⟩,
⟨(some 15),(.q (.mv (.t 44))),none,0⟩])))))))
(.seq (.reg [⟨(some 45),(.q (.mv (.t 5))),none,0⟩,
⟨(some 46),(.x (.call (.c (.fn 139 [] [])) [(.t 45)])),none,0⟩,
⟨(some 4),(.q (.mv (.t 46))),none,0⟩])
.ret)))))⟩
theorem row153 : Row Tryz.prog (153, a153) := ⟨Tryz.f153, Tryz.func153, by kernel_rfl⟩
noncomputable def a154 : AFn :=
⟨19,[(.t 4)],(.seq (.reg [⟨(some 4),(.q (.mv (.c (.int .i64 (.ofNat 0))))),none,0⟩])
(.seq (.seq (.reg [⟨(some 6),(.q (.mv (.t 0))),none,0⟩,
⟨(some 7),(.q (.lenSl (.t 6))),none,0⟩,
⟨(some 8),(.q (.mv (.c (.int .i64 (.ofNat 0))))),none,0⟩])
(.block 0 (.loop (.seq (.reg [⟨(some 9),(.q (.bin .lss (.p .int) (.t 8) (.t 7))),none,0⟩])
(.seq (.cond (.t 9) .skip (.exit 0))
(.seq (.block 1 (.seq (.reg [⟨(some 10),(.q (.mv (.t 8))),none,0⟩,
⟨(some 5),(.q (.mv (.t 10))),none,0⟩])
(.seq (.reg [⟨(some 11),(.q (.mv (.t 1))),none,0⟩,
⟨(some 12),(.q (.mv (.t 0))),none,0⟩,
⟨(some 13),(.q (.mv (.t 5))),none,0⟩,
⟨(some 14),(.q (.iaddr (.slice 1) (.t 12) (.t 13))),none,0⟩,
⟨(some 15),(.q (.ld false 1 (.t 14))),none,0⟩,
⟨(some 16),(.x (.call (.t 11) [(.t 15)])),none,0⟩])
(.cond (.t 16) (.seq (.reg [⟨(some 17),(.q (.mv (.t 5))),none,0⟩,
⟨(some 4),(.q (.mv (.t 17))),none,0⟩])
.ret) .skip))))
(.reg [⟨(some 18),(.q (.bin .add (.p .int) (.t 8) (.c (.int .i64 (.ofNat 1))))),none,0⟩,
⟨(some 8),(.q (.mv (.t 18))),none,0⟩])))))))
(.seq (.reg [⟨(some 4),(.q (.mv (.c (.int .i64 (.negSucc 0))))),none,0⟩])
.ret)))⟩
theorem row154 : Row Tryz.prog (154, a154) := ⟨Tryz.f154, Tryz.func154, by kernel_rfl⟩
noncomputable def a171 : AFn :=
⟨12,[(.t 6)],(.seq (.reg [⟨(some 4),(.a (.box 73 (.t 1))),none,0⟩,
⟨(some 6),(.q (.mv (.c (.int .i64 (.ofNat 0))))),none,0⟩])
(.seq (.reg [⟨(some 7),(.q (.mv (.t 0))),none,0⟩,
⟨(some 8),(.q (.faddr 2 (.t 4))),none,0⟩,
⟨(some 9),(.q (.ld false 1 (.t 8))),none,0⟩,
⟨(some 10),(.q (.iaddr (.slice 1) (.t 7) (.t 9))),none,0⟩,
⟨(some 11),(.q (.ld false 1 (.t 10))),none,0⟩,
⟨(some 6),(.q (.mv (.t 11))),none,0⟩])
.ret))⟩
theorem row171 : Row Tryz.prog (171, a171) := ⟨Tryz.f171, Tryz.func171, by kernel_rfl⟩
noncomputable def a172 : AFn :=
⟨5,[(.t 4)],(.seq (.reg [⟨(some 3),(.a (.box 73 (.t 1))),none,0⟩,
⟨(some 4),(.q (.mv (.c (.int .i64 (.ofNat 0))))),none,0⟩])
(.seq (.reg [⟨(some 4),(.q (.mv (.c (.int .i64 (.ofNat 1))))),none,0⟩])
.ret))⟩
theorem row172 : Row Tryz.prog (172, a172) := ⟨Tryz.f172, Tryz.func172, by kernel_rfl⟩
noncomputable def a173 : AFn :=
⟨15,[(.t 6)],(.seq (.reg [⟨(some 3),(.a (.box 100 (.t 0))),none,0⟩,
⟨(some 4),(.a (.box 73 (.t 1))),none,0⟩,
⟨(some 6),(.q (.mv (.c (.int .i64 (.ofNat 0))))),none,0⟩])
(.seq (.reg [⟨(some 7),(.q (.faddr 1 (.t 3))),none,0⟩,
⟨(some 8),(.q (.ld false 1 (.t 7))),none,0⟩,
⟨(some 9),(.q (.faddr 2 (.t 4))),none,0⟩,
⟨(some 10),(.q (.ld false 1 (.t 9))),none,0⟩,
⟨(some 11),(.q (.iaddr (.slice 1) (.t 8) (.t 10))),none,0⟩,
⟨(some 12),(.q (.ld false 1 (.t 11))),none,0⟩,
⟨(some 13),(.q (.mv (.t 2))),none,0⟩,
⟨(some 14),(.x (.call (.c (.fn 175 [] [])) [(.t 12),(.t 13)])),none,0⟩,
⟨(some 6),(.q (.mv (.t 14))),none,0⟩])
.ret))⟩
theorem row173 : Row Tryz.prog (173, a173) := ⟨Tryz.f173, Tryz.func173, by kernel_rfl⟩
noncomputable def a174 : AFn :=
⟨8,[(.t 4)],(.seq (.reg [⟨(some 2),(.a (.box 100 (.t 0))),none,0⟩,
⟨(some 3),(.a (.box 73 (.t 1))),none,0⟩,
⟨(some 4),(.q (.mv (.c (.int .i64 (.ofNat 0))))),none,0⟩])
(.seq (.reg [⟨(some 5),(.q (.faddr 0 (.t 2))),none,0⟩,
⟨(some 6),(.q (.ld false 1 (.t 5))),none,0⟩,
⟨(some 7),(.q (.bin .shl (.p .int) (.c (.int .i64 (.ofNat 1))) (.t 6))),none,0⟩,
⟨(some 4),(.q (.mv (.t 7))),none,0⟩])
.ret))⟩
theorem row174 : Row Tryz.prog (174, a174) := ⟨Tryz.f174, Tryz.func174, by kernel_rfl⟩
noncomputable def a175 : AFn :=
⟨22,[(.t 4)],(.seq (.reg [⟨(some 4),(.q (.mv (.c (.int .i64 (.ofNat 0))))),none,0⟩])
(.seq (.seq (.reg [⟨(some 7),(.q (.mv (.t 0))),none,0⟩,
⟨(some 8),(.q (.lenSl (.t 7))),none,0⟩,
⟨(some 9),(.q (.mv (.c (.int .i64 (.ofNat 0))))),none,0⟩])
(.block 0 (.loop (.seq (.reg [⟨(some 10),(.q (.bin .lss (.p .int) (.t 9) (.t 8))),none,0⟩])
(.seq (.cond (.t 10) .skip (.exit 0))
(.seq (.block 1 (.seq (.reg [⟨(some 11),(.q (.mv (.t 9))),none,0⟩,
⟨(some 12),(.q (.iaddr (.slice 1) (.t 7) (.t 9))),none,0⟩,
⟨(some 13),(.q (.ld false 1 (.t 12))),none,0⟩,
⟨(some 5),(.q (.mv (.t 11))),none,0⟩,
⟨(some 6),(.q (.mv (.t 13))),none,0⟩])
(.seq (.seq (.reg [⟨(some 14),(.q (.mv (.t 1))),none,0⟩,
⟨(some 15),(.q (.mv (.t 6))),none,0⟩,
⟨(some 16),(.q (.bin .lss (.p .int) (.t 14) (.t 15))),none,0⟩])
(.cond (.t 16) (.seq (.reg [⟨(some 17),(.q (.mv (.t 5))),none,0⟩,
⟨(some 4),(.q (.mv (.t 17))),none,0⟩])
.ret) .skip))
(.reg [⟨(some 18),(.q (.mv (.t 1))),none,0⟩,
⟨(some 19),(.q (.mv (.t 6))),none,0⟩,
⟨(some 20),(.q (.bin .sub (.p .int) (.t 18) (.t 19))),none,0⟩,
⟨(some 1),(.q (.mv (.t 20))),none,0⟩]))))
(.reg [⟨(some 21),(.q (.bin .add (.p .int) (.t 9) (.c (.int .i64 (.ofNat 1))))),none,0⟩,
⟨(some 9),(.q (.mv (.t 21))),none,0⟩])))))))
(.seq (.reg [⟨(some 4),(.q (.mv (.c (.int .i64 (.ofNat 0))))),none,0⟩])
.ret)))⟩
theorem row175 : Row Tryz.prog (175, a175) := ⟨Tryz.f175, Tryz.func175, by kernel_rfl⟩
noncomputable def a176 : AFn :=
⟨11,[(.t 6)],(.seq (.reg [⟨(some 3),(.a (.box 102 (.t 0))),none,0⟩,
⟨(some 4),(.a (.box 73 (.t 1))),none,0⟩,
⟨(some 6),(.q (.mv (.c (.int .i64 (.ofNat 0))))),none,0⟩])
(.seq (.reg [⟨(some 7),(.q (.faddr 4 (.t 4))),none,0⟩,
⟨(some 8),(.q (.ld false 1 (.t 7))),none,0⟩,
⟨(some 9),(.q (.mv (.t 2))),none,0⟩,
⟨(some 10),(.x (.call (.c (.fn 175 [] [])) [(.t 8),(.t 9)])),none,0⟩,
⟨(some 6),(.q (.mv (.t 10))),none,0⟩])
.ret))⟩
theorem row176 : Row Tryz.prog (176, a176) := ⟨Tryz.f176, Tryz.func176, by kernel_rfl⟩
end Go.Proofs.YtiiplmagnlcpbaaGreatDoor.dealKnown
