/- Functions of the program as data of the evaluator, written by program; each is shown to be the compiler's result on the loaded function. -/
import Derived.Test.YtmbmidkdinllgaaDoorProg
import Derived.Test.YtmbmidkdinllgaaDoorEv8
import Derived.KernelRfl
namespace Go.Ev.Gl
set_option maxRecDepth 100000
noncomputable def a4 : AFn :=
⟨204,[(.t 2)],(.seq (.reg [⟨(some 2),(.q (.mv (.c (.bool false)))),none,0⟩])
(.seq (.reg [⟨(some 24),(.q (.mv (.t 0))),none,0⟩,
⟨(some 25),(.q (.build [.nilsl,(.int .i64 (.ofNat 0))] [(0,1,(.t 24))])),none,0⟩,
⟨(some 26),(.a (.box 35 (.t 25))),none,0⟩,
⟨(some 3),(.q (.mv (.t 26))),none,0⟩])
(.seq (.reg [⟨(some 27),(.q (.mv (.t 3))),none,0⟩,
⟨(some 28),(.x (.call (.c (.fn 15 [] [])) [(.t 27),(.c (.int .i64 (.ofNat 20)))])),none,0⟩,
⟨(some 29),(.q (.mv (.t 3))),none,0⟩,
⟨(some 30),(.x (.call (.c (.fn 15 [] [])) [(.t 29),(.c (.int .i64 (.ofNat 20)))])),none,0⟩,
⟨(some 31),(.q (.mv (.t 3))),none,0⟩,
⟨(some 32),(.x (.call (.c (.fn 17 [] [])) [(.t 31),(.c (.int .i64 (.ofNat 20)))])),none,0⟩,
⟨(some 33),(.x (.call (.c (.fn 16 [] [])) [(.t 32),(.c (.int .i64 (.ofNat 20)))])),none,0⟩,
⟨(some 4),(.a (.alloc 25 [(.bool false),.nilsl,.nilsl])),none,0⟩,
⟨(some 5),(.a (.alloc 25 [(.bool false),.nilsl,.nilsl])),none,0⟩,
⟨(some 6),(.a (.alloc 25 [(.bool false),.nilsl,.nilsl])),none,0⟩,
⟨none,(.x (.st 3 (.t 4) (.t 28))),none,0⟩,
⟨none,(.x (.st 3 (.t 5) (.t 30))),none,0⟩,
⟨none,(.x (.st 3 (.t 6) (.t 33))),none,0⟩])
(.seq (.reg [⟨(some 35),(.q (.ld true 3 (.t 4))),none,0⟩,
⟨(some 36),(.q (.ld true 3 (.t 5))),none,0⟩,
⟨(some 37),(.x (.call (.c (.fn 18 [] [])) [(.t 35),(.t 36)])),none,0⟩,
⟨(some 34),(.q (.mv (.t 37))),none,0⟩,
⟨(some 38),(.q (.extract (.t 34) 0)),none,0⟩,
⟨(some 39),(.q (.extract (.t 34) 1)),none,0⟩,
⟨(some 7),(.q (.mv (.t 38))),none,0⟩,
⟨(some 8),(.q (.mv (.t 39))),none,0⟩])
(.seq (.seq (.reg [⟨(some 40),(.q (.mv (.t 7))),none,0⟩,
⟨(some 41),(.q (.bin .gtr (.p .int) (.t 40) (.c (.int .i64 (.ofNat 0))))),none,0⟩])
(.cond (.t 41) (.reg [⟨(some 42),(.q (.ld true 3 (.t 5))),none,0⟩,
⟨(some 43),(.q (.ld true 3 (.t 4))),none,0⟩,
⟨none,(.x (.st 3 (.t 4) (.t 42))),none,0⟩,
⟨none,(.x (.st 3 (.t 5) (.t 43))),none,0⟩]) .skip))
(.seq (.reg [⟨(some 45),(.q (.ld true 3 (.t 4))),none,0⟩,
⟨(some 46),(.q (.ld true 3 (.t 5))),none,0⟩,
⟨(some 47),(.x (.call (.c (.fn 12 [] [])) [(.t 45),(.t 46)])),none,0⟩,
⟨(some 44),(.q (.mv (.t 47))),none,0⟩,
⟨(some 48),(.q (.extract (.t 44) 0)),none,0⟩,
⟨(some 49),(.q (.extract (.t 44) 1)),none,0⟩,
⟨(some 9),(.a (.alloc 25 [(.bool false),.nilsl,.nilsl])),none,0⟩,
⟨none,(.x (.st 3 (.t 9) (.t 48))),none,0⟩,
⟨(some 10),(.q (.mv (.t 49))),none,0⟩])
(.seq (.reg [⟨(some 51),(.q (.ld true 3 (.t 4))),none,0⟩,
⟨(some 52),(.q (.ld true 3 (.t 9))),none,0⟩,
⟨(some 53),(.x (.call (.c (.fn 18 [] [])) [(.t 51),(.t 52)])),none,0⟩,
⟨(some 50),(.q (.mv (.t 53))),none,0⟩,
⟨(some 54),(.q (.extract (.t 50) 0)),none,0⟩,
⟨(some 55),(.q (.extract (.t 50) 1)),none,0⟩,
⟨(some 11),(.q (.mv (.t 54))),none,0⟩,
⟨(some 12),(.q (.mv (.t 55))),none,0⟩])
(.seq (.reg [⟨(some 57),(.q (.ld true 3 (.t 9))),none,0⟩,
⟨(some 58),(.q (.ld true 3 (.t 5))),none,0⟩,
⟨(some 59),(.x (.call (.c (.fn 18 [] [])) [(.t 57),(.t 58)])),none,0⟩,
⟨(some 56),(.q (.mv (.t 59))),none,0⟩,
⟨(some 60),(.q (.extract (.t 56) 0)),none,0⟩,
⟨(some 61),(.q (.extract (.t 56) 1)),none,0⟩,
⟨(some 13),(.q (.mv (.t 60))),none,0⟩,
⟨(some 14),(.q (.mv (.t 61))),none,0⟩])
(.seq (.seq (.reg [⟨(some 62),(.q (.mv (.t 8))),none,0⟩,
⟨(some 63),(.q (.bin .neq (.p .int) (.t 62) (.c (.int .i64 (.ofNat 0))))),none,0⟩,
⟨(some 64),(.q (.mv (.t 63))),none,0⟩,
⟨(some 65),(.q (.mv (.t 10))),(some (64,false)),0⟩,
⟨(some 66),(.q (.bin .neq (.p .int) (.t 65) (.c (.int .i64 (.ofNat 0))))),(some (64,false)),0⟩,
⟨(some 67),(.q (.pick (.t 64) (.c (.bool true)) (.t 66))),none,0⟩,
⟨(some 68),(.q (.mv (.t 67))),none,0⟩,
⟨(some 69),(.q (.mv (.t 12))),(some (68,false)),0⟩,
⟨(some 70),(.q (.bin .neq (.p .int) (.t 69) (.c (.int .i64 (.ofNat 0))))),(some (68,false)),0⟩,
⟨(some 71),(.q (.pick (.t 68) (.c (.bool true)) (.t 70))),none,0⟩,
⟨(some 72),(.q (.mv (.t 71))),none,0⟩,
⟨(some 73),(.q (.mv (.t 14))),(some (72,false)),0⟩,
⟨(some 74),(.q (.bin .neq (.p .int) (.t 73) (.c (.int .i64 (.ofNat 0))))),(some (72,false)),0⟩,
⟨(some 75),(.q (.pick (.t 72) (.c (.bool true)) (.t 74))),none,0⟩,
⟨(some 76),(.q (.mv (.t 75))),none,0⟩,
⟨(some 77),(.q (.mv (.t 11))),(some (76,false)),0⟩,
⟨(some 78),(.q (.bin .gtr (.p .int) (.t 77) (.c (.int .i64 (.ofNat 0))))),(some (76,false)),0⟩,
⟨(some 79),(.q (.pick (.t 76) (.c (.bool true)) (.t 78))),none,0⟩,
⟨(some 80),(.q (.mv (.t 79))),none,0⟩,
⟨(some 81),(.q (.mv (.t 13))),(some (80,false)),0⟩,
⟨(some 82),(.q (.bin .gtr (.p .int) (.t 81) (.c (.int .i64 (.ofNat 0))))),(some (80,false)),0⟩,
⟨(some 83),(.q (.pick (.t 80) (.c (.bool true)) (.t 82))),none,0⟩,
⟨(some 84),(.q (.mv (.t 83))),none,0⟩,
⟨(some 85),(.q (.faddr 2 (.t 9))),(some (84,false)),0⟩,
⟨(some 86),(.q (.ld false 1 (.t 85))),(some (84,false)),0⟩,
⟨(some 87),(.q (.lenSl (.t 86))),(some (84,false)),0⟩,
⟨(some 88),(.q (.bin .neq (.p .int) (.t 87) (.c (.int .i64 (.ofNat 1))))),(some (84,false)),0⟩,
⟨(some 89),(.q (.pick (.t 84) (.c (.bool true)) (.t 88))),none,0⟩,
⟨(some 90),(.q (.mv (.t 89))),none,0⟩,
⟨(some 91),(.q (.faddr 1 (.t 9))),(some (90,false)),0⟩,
⟨(some 92),(.q (.ld false 1 (.t 91))),(some (90,false)),0⟩,
⟨(some 93),(.q (.lenSl (.t 92))),(some (90,false)),0⟩,
⟨(some 94),(.q (.bin .gtr (.p .int) (.t 93) (.c (.int .i64 (.ofNat 1))))),(some (90,false)),0⟩,
⟨(some 95),(.q (.pick (.t 90) (.c (.bool true)) (.t 94))),none,0⟩,
⟨(some 96),(.q (.mv (.t 95))),none,0⟩,
⟨(some 97),(.q (.faddr 2 (.t 9))),(some (96,false)),0⟩,
⟨(some 98),(.q (.ld false 1 (.t 97))),(some (96,false)),0⟩,
⟨(some 99),(.q (.iaddr (.slice 1) (.t 98) (.c (.int .i64 (.ofNat 0))))),(some (96,false)),0⟩,
⟨(some 100),(.q (.ld false 1 (.t 99))),(some (96,false)),0⟩,
⟨(some 101),(.q (.bin .gtr (.p .int) (.t 100) (.c (.int .u32 (.ofNat 20))))),(some (96,false)),0⟩,
⟨(some 102),(.q (.pick (.t 96) (.c (.bool true)) (.t 101))),none,0⟩])
(.cond (.t 102) (.seq (.reg [⟨(some 2),(.q (.mv (.c (.bool false)))),none,0⟩])
.ret) .skip))
(.seq (.reg [⟨(some 103),(.q (.faddr 2 (.t 9))),none,0⟩,
⟨(some 104),(.q (.ld false 1 (.t 103))),none,0⟩,
⟨(some 105),(.q (.iaddr (.slice 1) (.t 104) (.c (.int .i64 (.ofNat 0))))),none,0⟩,
⟨(some 106),(.q (.ld false 1 (.t 105))),none,0⟩,
⟨(some 107),(.q (.conv (.int .i64) (.t 106))),none,0⟩,
⟨(some 15),(.q (.mv (.t 107))),none,0⟩,
⟨(some 16),(.q (.mv (.c (.int .i64 (.ofNat 0))))),none,0⟩])
(.seq (.seq (.reg [⟨(some 108),(.q (.faddr 1 (.t 9))),none,0⟩,
⟨(some 109),(.q (.ld false 1 (.t 108))),none,0⟩,
⟨(some 110),(.q (.lenSl (.t 109))),none,0⟩,
⟨(some 111),(.q (.bin .gtr (.p .int) (.t 110) (.c (.int .i64 (.ofNat 0))))),none,0⟩])
(.cond (.t 111) (.reg [⟨(some 112),(.q (.faddr 1 (.t 9))),none,0⟩,
⟨(some 113),(.q (.ld false 1 (.t 112))),none,0⟩,
⟨(some 114),(.q (.iaddr (.slice 1) (.t 113) (.c (.int .i64 (.ofNat 0))))),none,0⟩,
⟨(some 115),(.q (.ld false 1 (.t 114))),none,0⟩,
⟨(some 116),(.q (.conv (.int .i64) (.t 115))),none,0⟩,
⟨(some 16),(.q (.mv (.t 116))),none,0⟩]) .skip))
(.seq (.seq (.reg [⟨(some 17),(.q (.mv (.c (.int .i64 (.ofNat 1))))),none,0⟩])
(.block 0 (.loop (.seq (.seq (.reg [⟨(some 117),(.q (.mv (.t 17))),none,0⟩,
⟨(some 118),(.q (.mv (.t 15))),none,0⟩,
⟨(some 119),(.q (.bin .leq (.p .int) (.t 117) (.t 118))),none,0⟩])
(.cond (.t 119) .skip (.exit 0)))
(.seq (.block 1 (.seq (.reg [⟨(some 122),(.q (.mv (.t 17))),none,0⟩,
⟨(some 123),(.q (.bin .mul (.p .int) (.c (.int .i64 (.negSucc 19))) (.t 122))),none,0⟩,
⟨(some 18),(.q (.mv (.t 123))),none,0⟩])
(.block 2 (.loop (.seq (.seq (.reg [⟨(some 124),(.q (.mv (.t 18))),none,0⟩,
⟨(some 125),(.q (.mv (.t 17))),none,0⟩,
⟨(some 126),(.q (.bin .mul (.p .int) (.c (.int .i64 (.ofNat 20))) (.t 125))),none,0⟩,
⟨(some 127),(.q (.bin .leq (.p .int) (.t 124) (.t 126))),none,0⟩])
(.cond (.t 127) .skip (.exit 2)))
(.seq (.block 3 (.seq (.seq (.reg [⟨(some 130),(.q (.mv (.t 17))),none,0⟩,
⟨(some 131),(.q (.mv (.t 15))),none,0⟩,
⟨(some 132),(.q (.bin .eql (.p .int) (.t 130) (.t 131))),none,0⟩,
⟨(some 133),(.q (.mv (.t 132))),none,0⟩,
⟨(some 134),(.q (.mv (.t 18))),(some (133,true)),0⟩,
⟨(some 135),(.q (.mv (.t 16))),(some (133,true)),0⟩,
⟨(some 136),(.q (.bin .geq (.p .int) (.t 134) (.t 135))),(some (133,true)),0⟩,
⟨(some 137),(.q (.mv (.t 136))),(some (133,true)),0⟩,
⟨(some 138),(.q (.mv (.t 18))),(some (137,false)),0⟩,
⟨(some 139),(.q (.un .neg (.t 138))),(some (137,false)),0⟩,
⟨(some 140),(.q (.mv (.t 16))),(some (137,false)),0⟩,
⟨(some 141),(.q (.bin .geq (.p .int) (.t 139) (.t 140))),(some (137,false)),0⟩,
⟨(some 142),(.q (.pick (.t 137) (.c (.bool true)) (.t 141))),(some (133,true)),0⟩,
⟨(some 143),(.q (.pick (.t 133) (.t 142) (.c (.bool false)))),none,0⟩])
(.cond (.t 143) (.exit 3) .skip))
(.seq (.drw [⟨(some 145),(.q (.ld true 3 (.t 4))),none,0⟩,
⟨(some 146),(.q (.mv (.t 18))),none,0⟩,
⟨(some 147),(.q (.mv (.t 17))),none,0⟩,
⟨(some 148),(.x (.call (.c (.fn 19 [] [])) [(.t 146),(.t 147)])),none,6⟩,
⟨(some 149),(.x (.call (.c (.fn 18 [] [])) [(.t 145),(.t 148)])),none,15⟩,
⟨(some 144),(.q (.mv (.t 149))),none,31⟩,
⟨(some 150),(.q (.extract (.t 144) 0)),none,63⟩,
⟨(some 151),(.q (.extract (.t 144) 1)),none,63⟩,
⟨(some 19),(.q (.mv (.t 150))),none,127⟩,
⟨(some 20),(.q (.mv (.t 151))),none,511⟩])
(.seq (.drw [⟨(some 153),(.q (.mv (.t 18))),none,0⟩,
⟨(some 154),(.q (.mv (.t 17))),none,0⟩,
⟨(some 155),(.x (.call (.c (.fn 19 [] [])) [(.t 153),(.t 154)])),none,3⟩,
⟨(some 156),(.q (.ld true 3 (.t 5))),none,0⟩,
⟨(some 157),(.x (.call (.c (.fn 18 [] [])) [(.t 155),(.t 156)])),none,15⟩,
⟨(some 152),(.q (.mv (.t 157))),none,31⟩,
⟨(some 158),(.q (.extract (.t 152) 0)),none,63⟩,
⟨(some 159),(.q (.extract (.t 152) 1)),none,63⟩,
⟨(some 21),(.q (.mv (.t 158))),none,127⟩,
⟨(some 22),(.q (.mv (.t 159))),none,511⟩])
(.seq (.reg [⟨(some 160),(.q (.mv (.t 20))),none,0⟩,
⟨(some 161),(.q (.bin .neq (.p .int) (.t 160) (.c (.int .i64 (.ofNat 0))))),none,0⟩,
⟨(some 162),(.q (.mv (.t 161))),none,0⟩,
⟨(some 163),(.q (.mv (.t 22))),(some (162,false)),0⟩,
⟨(some 164),(.q (.bin .neq (.p .int) (.t 163) (.c (.int .i64 (.ofNat 0))))),(some (162,false)),0⟩,
⟨(some 165),(.q (.pick (.t 162) (.c (.bool true)) (.t 164))),none,0⟩,
⟨(some 166),(.q (.mv (.t 165))),none,0⟩,
⟨(some 167),(.q (.mv (.t 19))),(some (166,false)),0⟩,
⟨(some 168),(.q (.bin .leq (.p .int) (.t 167) (.c (.int .i64 (.ofNat 0))))),(some (166,false)),0⟩,
⟨(some 169),(.q (.mv (.t 168))),(some (166,false)),0⟩,
⟨(some 170),(.q (.mv (.t 21))),(some (169,true)),0⟩,
⟨(some 171),(.q (.bin .leq (.p .int) (.t 170) (.c (.int .i64 (.ofNat 0))))),(some (169,true)),0⟩,
⟨(some 172),(.q (.pick (.t 169) (.t 171) (.c (.bool false)))),(some (166,false)),0⟩,
⟨(some 173),(.q (.pick (.t 166) (.c (.bool true)) (.t 172))),none,0⟩])
(.cond (.t 173) (.seq (.reg [⟨(some 2),(.q (.mv (.c (.bool false)))),none,0⟩])
.ret) .skip))))))
(.reg [⟨(some 128),(.q (.mv (.t 18))),none,0⟩,
⟨(some 129),(.q (.bin .add (.p .int) (.t 128) (.c (.int .i64 (.ofNat 1))))),none,0⟩,
⟨(some 18),(.q (.mv (.t 129))),none,0⟩])))))))
(.reg [⟨(some 120),(.q (.mv (.t 17))),none,0⟩,
⟨(some 121),(.q (.bin .add (.p .int) (.t 120) (.c (.int .i64 (.ofNat 1))))),none,0⟩,
⟨(some 17),(.q (.mv (.t 121))),none,0⟩]))))))
(.seq (.drw [⟨(some 175),(.q (.ld true 3 (.t 4))),none,0⟩,
⟨(some 176),(.q (.ld true 3 (.t 5))),none,0⟩,
⟨(some 177),(.q (.ld true 3 (.t 6))),none,0⟩,
⟨(some 178),(.x (.call (.c (.fn 20 [] [])) [(.t 176),(.t 177)])),none,6⟩,
⟨(some 179),(.x (.call (.c (.fn 12 [] [])) [(.t 175),(.t 178)])),none,15⟩,
⟨(some 174),(.q (.mv (.t 179))),none,31⟩,
⟨(some 180),(.q (.extract (.t 174) 0)),none,63⟩,
⟨(some 181),(.q (.extract (.t 174) 1)),none,63⟩,
⟨(some 23),(.a (.alloc 25 [(.bool false),.nilsl,.nilsl])),none,0⟩,
⟨none,(.x (.st 3 (.t 23) (.t 180))),none,383⟩,
⟨(some 8),(.q (.mv (.t 181))),none,1023⟩])
(.seq (.drw [⟨(some 182),(.q (.mv (.t 8))),none,0⟩,
⟨(some 183),(.q (.bin .eql (.p .int) (.t 182) (.c (.int .i64 (.ofNat 0))))),none,1⟩,
⟨(some 184),(.q (.mv (.t 183))),none,3⟩,
⟨(some 185),(.q (.faddr 2 (.t 23))),(some (184,true)),7⟩,
⟨(some 186),(.q (.ld false 1 (.t 185))),(some (184,true)),15⟩,
⟨(some 187),(.q (.lenSl (.t 186))),(some (184,true)),31⟩,
⟨(some 188),(.q (.bin .eql (.p .int) (.t 187) (.c (.int .i64 (.ofNat 1))))),(some (184,true)),63⟩,
⟨(some 189),(.q (.pick (.t 184) (.t 188) (.c (.bool false)))),none,127⟩,
⟨(some 190),(.q (.mv (.t 189))),none,255⟩,
⟨(some 191),(.q (.faddr 2 (.t 23))),(some (190,true)),511⟩,
⟨(some 192),(.q (.ld false 1 (.t 191))),(some (190,true)),1023⟩,
⟨(some 193),(.q (.iaddr (.slice 1) (.t 192) (.c (.int .i64 (.ofNat 0))))),(some (190,true)),2047⟩,
⟨(some 194),(.q (.ld false 1 (.t 193))),(some (190,true)),4095⟩,
⟨(some 195),(.q (.faddr 2 (.t 9))),(some (190,true)),511⟩,
⟨(some 196),(.q (.ld false 1 (.t 195))),(some (190,true)),8703⟩,
⟨(some 197),(.q (.iaddr (.slice 1) (.t 196) (.c (.int .i64 (.ofNat 0))))),(some (190,true)),25087⟩,
⟨(some 198),(.q (.ld false 1 (.t 197))),(some (190,true)),57855⟩,
⟨(some 199),(.q (.bin .leq (.p .int) (.t 194) (.t 198))),(some (190,true)),131071⟩,
⟨(some 200),(.q (.pick (.t 190) (.t 199) (.c (.bool false)))),none,262143⟩,
⟨(some 201),(.q (.mv (.t 200))),none,524287⟩,
⟨(some 202),(.x (.call (.c (.fn 11 [] [])) [])),(some (201,true)),1048575⟩,
⟨(some 203),(.q (.pick (.t 201) (.t 202) (.c (.bool false)))),none,2097151⟩,
⟨(some 2),(.q (.mv (.t 203))),none,4194303⟩])
.ret))))))))))))))⟩
theorem row4 : Row Go.Proofs.Tryd.prog (4, a4) := ⟨Go.Proofs.Tryd.f4, Go.Proofs.Tryd.func4, by kernel_rfl⟩
noncomputable def a12 : AFn :=
⟨50,[(.cell 4 true 3),(.t 5)],(.seq (.reg [⟨(some 2),(.a (.box 25 (.t 0))),none,0⟩,
⟨(some 3),(.a (.box 25 (.t 1))),none,0⟩,
⟨(some 4),(.a (.alloc 25 [(.bool false),.nilsl,.nilsl])),none,0⟩,
⟨(some 5),(.q (.mv (.c (.int .i64 (.ofNat 0))))),none,0⟩])
(.seq (.reg [⟨(some 9),(.q (.ld true 3 (.t 2))),none,0⟩,
⟨(some 10),(.q (.ld true 3 (.t 3))),none,0⟩,
⟨(some 11),(.x (.call (.c (.fn 18 [] [])) [(.t 9),(.t 10)])),none,0⟩,
⟨(some 8),(.q (.mv (.t 11))),none,0⟩,
⟨(some 12),(.q (.extract (.t 8) 0)),none,0⟩,
⟨(some 13),(.q (.extract (.t 8) 1)),none,0⟩,
⟨(some 6),(.q (.mv (.t 12))),none,0⟩,
⟨(some 7),(.q (.mv (.t 13))),none,0⟩])
(.seq (.seq (.reg [⟨(some 14),(.q (.mv (.t 7))),none,0⟩,
⟨(some 15),(.q (.bin .neq (.p .int) (.t 14) (.c (.int .i64 (.ofNat 0))))),none,0⟩])
(.cond (.t 15) (.seq (.reg [⟨(some 16),(.q (.build [(.bool false),.nilsl,.nilsl] [])),none,0⟩,
⟨(some 17),(.q (.mv (.t 7))),none,0⟩,
⟨none,(.x (.st 3 (.t 4) (.t 16))),none,0⟩,
⟨(some 5),(.q (.mv (.t 17))),none,0⟩])
.ret) .skip))
(.seq (.seq (.reg [⟨(some 18),(.q (.mv (.t 6))),none,0⟩,
⟨(some 19),(.q (.bin .gtr (.p .int) (.t 18) (.c (.int .i64 (.ofNat 0))))),none,0⟩])
(.cond (.t 19) (.seq (.reg [⟨(some 20),(.q (.build [(.bool false),.nilsl,.nilsl] [])),none,0⟩,
⟨none,(.x (.st 3 (.t 4) (.t 20))),none,0⟩,
⟨(some 5),(.q (.mv (.c (.int .i64 (.ofNat 9))))),none,0⟩])
.ret) .skip))
(.seq (.seq (.reg [⟨(some 21),(.q (.mv (.t 6))),none,0⟩,
⟨(some 22),(.q (.bin .eql (.p .int) (.t 21) (.c (.int .i64 (.ofNat 0))))),none,0⟩])
(.cond (.t 22) (.seq (.reg [⟨(some 23),(.q (.ld true 3 (.t 2))),none,0⟩,
⟨(some 24),(.x (.call (.c (.fn 50 [] [])) [(.t 23)])),none,0⟩,
⟨none,(.x (.st 3 (.t 4) (.t 24))),none,0⟩,
⟨(some 5),(.q (.mv (.c (.int .i64 (.ofNat 0))))),none,0⟩])
.ret) .skip))
(.seq (.seq (.reg [⟨(some 25),(.q (.ld true 3 (.t 2))),none,0⟩,
⟨(some 26),(.x (.call (.c (.fn 51 [] [])) [(.t 25)])),none,0⟩,
⟨(some 27),(.q (.bin .eql (.p .int) (.t 26) (.c (.int .i64 (.ofNat 2))))),none,0⟩])
(.cond (.t 27) (.seq (.reg [⟨(some 28),(.q (.ld true 3 (.t 2))),none,0⟩,
⟨(some 29),(.q (.ld true 3 (.t 3))),none,0⟩,
⟨(some 30),(.q (.build [(.bool false),.nilsl,.nilsl,(.bool false),.nilsl,.nilsl] [(0,3,(.t 28)),(3,3,(.t 29))])),none,0⟩,
⟨(some 31),(.x (.call (.c (.fn 53 [] [])) [(.t 30)])),none,0⟩,
⟨(some 32),(.x (.call (.c (.fn 50 [] [])) [(.t 31)])),none,0⟩,
⟨(some 33),(.x (.call (.c (.fn 52 [] [])) [(.t 32)])),none,0⟩,
⟨(some 34),(.q (.extract (.t 33) 0)),none,0⟩,
⟨(some 35),(.q (.extract (.t 33) 1)),none,0⟩,
⟨none,(.x (.st 3 (.t 4) (.t 34))),none,0⟩,
⟨(some 5),(.q (.mv (.t 35))),none,0⟩])
.ret) .skip))
(.seq (.seq (.reg [⟨(some 36),(.q (.ld true 3 (.t 3))),none,0⟩,
⟨(some 37),(.x (.call (.c (.fn 51 [] [])) [(.t 36)])),none,0⟩,
⟨(some 38),(.q (.bin .eql (.p .int) (.t 37) (.c (.int .i64 (.ofNat 0))))),none,0⟩])
(.cond (.t 38) (.seq (.drw [⟨(some 39),(.q (.ld true 3 (.t 3))),none,0⟩,
⟨(some 40),(.x (.call (.c (.fn 54 [] [])) [(.t 39)])),none,1⟩,
⟨(some 41),(.q (.ld true 3 (.t 2))),none,0⟩,
⟨(some 42),(.x (.call (.c (.fn 54 [] [])) [(.t 41)])),none,7⟩,
⟨(some 43),(.q (.build [(.bool false),.nilsl,.nilsl,(.bool false),.nilsl,.nilsl] [(0,3,(.t 40)),(3,3,(.t 42))])),none,15⟩,
⟨(some 44),(.x (.call (.c (.fn 53 [] [])) [(.t 43)])),none,31⟩,
⟨(some 45),(.x (.call (.c (.fn 54 [] [])) [(.t 44)])),none,63⟩,
⟨(some 46),(.x (.call (.c (.fn 52 [] [])) [(.t 45)])),none,127⟩,
⟨(some 47),(.q (.extract (.t 46) 0)),none,255⟩,
⟨(some 48),(.q (.extract (.t 46) 1)),none,255⟩,
⟨none,(.x (.st 3 (.t 4) (.t 47))),none,1023⟩,
⟨(some 5),(.q (.mv (.t 48))),none,2047⟩])
.ret) .skip))
(.seq (.reg [⟨(some 49),(.x (.call (.c (.fn 55 [] [])) [])),none,0⟩,
⟨none,(.x (.st 3 (.t 4) (.t 49))),none,0⟩,
⟨(some 5),(.q (.mv (.c (.int .i64 (.ofNat 0))))),none,0⟩])
.ret))))))))⟩
theorem row12 : Row Go.Proofs.Tryd.prog (12, a12) := ⟨Go.Proofs.Tryd.f12, Go.Proofs.Tryd.func12, by kernel_rfl⟩
noncomputable def a15 : AFn :=
⟨17,[(.cell 4 true 3)],(.seq (.reg [⟨(some 4),(.a (.alloc 25 [(.bool false),.nilsl,.nilsl])),none,0⟩])
(.seq (.reg [⟨(some 5),(.q (.mv (.t 0))),none,0⟩,
⟨(some 6),(.q (.mv (.t 1))),none,0⟩,
⟨(some 7),(.q (.bin .mul (.p .int) (.c (.int .i64 (.ofNat 2))) (.t 6))),none,0⟩,
⟨(some 8),(.q (.bin .add (.p .int) (.t 7) (.c (.int .i64 (.ofNat 1))))),none,0⟩,
⟨(some 9),(.x (.call (.c (.fn 17 [] [])) [(.t 5),(.t 8)])),none,0⟩,
⟨(some 10),(.q (.mv (.t 1))),none,0⟩,
⟨(some 11),(.q (.bin .sub (.p .int) (.t 9) (.t 10))),none,0⟩,
⟨(some 12),(.q (.mv (.t 0))),none,0⟩,
⟨(some 13),(.q (.mv (.t 1))),none,0⟩,
⟨(some 14),(.x (.call (.c (.fn 17 [] [])) [(.t 12),(.t 13)])),none,0⟩,
⟨(some 15),(.q (.bin .add (.p .int) (.c (.int .i64 (.ofNat 1))) (.t 14))),none,0⟩,
⟨(some 16),(.x (.call (.c (.fn 16 [] [])) [(.t 11),(.t 15)])),none,0⟩,
⟨none,(.x (.st 3 (.t 4) (.t 16))),none,0⟩])
.ret))⟩
theorem row15 : Row Go.Proofs.Tryd.prog (15, a15) := ⟨Go.Proofs.Tryd.f15, Go.Proofs.Tryd.func15, by kernel_rfl⟩
noncomputable def a16 : AFn :=
⟨31,[(.cell 4 true 3)],(.seq (.reg [⟨(some 4),(.a (.alloc 25 [(.bool false),.nilsl,.nilsl])),none,0⟩])
(.seq (.reg [⟨(some 6),(.q (.mv (.t 0))),none,0⟩,
⟨(some 7),(.q (.mv (.t 0))),none,0⟩,
⟨(some 8),(.q (.un .neg (.t 7))),none,0⟩,
⟨(some 9),(.q (.minmax true [(.t 6),(.t 8)])),none,0⟩,
⟨(some 10),(.q (.mv (.t 1))),none,0⟩,
⟨(some 11),(.x (.call (.c (.fn 60 [] [])) [(.t 9),(.t 10)])),none,0⟩,
⟨(some 5),(.q (.mv (.t 11))),none,0⟩])
(.seq (.drw [⟨(some 12),(.q (.mv (.t 0))),none,0⟩,
⟨(some 13),(.q (.mv (.t 5))),none,0⟩,
⟨(some 14),(.q (.bin .quo (.p .int) (.t 12) (.t 13))),none,3⟩,
⟨(some 15),(.q (.mv (.t 1))),none,0⟩,
⟨(some 16),(.q (.mv (.t 5))),none,0⟩,
⟨(some 17),(.q (.bin .quo (.p .int) (.t 15) (.t 16))),none,24⟩,
⟨(some 0),(.q (.mv (.t 14))),none,7⟩,
⟨(some 1),(.q (.mv (.t 17))),none,127⟩])
(.seq (.seq (.reg [⟨(some 18),(.q (.mv (.t 0))),none,0⟩,
⟨(some 19),(.q (.bin .lss (.p .int) (.t 18) (.c (.int .i64 (.ofNat 0))))),none,0⟩])
(.cond (.t 19) (.seq (.reg [⟨(some 20),(.q (.mv (.t 0))),none,0⟩,
⟨(some 21),(.q (.un .neg (.t 20))),none,0⟩,
⟨(some 22),(.x (.call (.c (.fn 61 [] [])) [(.t 21)])),none,0⟩,
⟨(some 23),(.q (.mv (.t 1))),none,0⟩,
⟨(some 24),(.x (.call (.c (.fn 61 [] [])) [(.t 23)])),none,0⟩,
⟨(some 25),(.q (.build [(.bool false),.nilsl,.nilsl] [(0,1,(.c (.bool true))),(1,1,(.t 22)),(2,1,(.t 24))])),none,0⟩,
⟨none,(.x (.st 3 (.t 4) (.t 25))),none,0⟩])
.ret) .skip))
(.seq (.reg [⟨(some 26),(.q (.mv (.t 0))),none,0⟩,
⟨(some 27),(.x (.call (.c (.fn 61 [] [])) [(.t 26)])),none,0⟩,
⟨(some 28),(.q (.mv (.t 1))),none,0⟩,
⟨(some 29),(.x (.call (.c (.fn 61 [] [])) [(.t 28)])),none,0⟩,
⟨(some 30),(.q (.build [(.bool false),.nilsl,.nilsl] [(1,1,(.t 27)),(2,1,(.t 29))])),none,0⟩,
⟨none,(.x (.st 3 (.t 4) (.t 30))),none,0⟩])
.ret)))))⟩
theorem row16 : Row Go.Proofs.Tryd.prog (16, a16) := ⟨Go.Proofs.Tryd.f16, Go.Proofs.Tryd.func16, by kernel_rfl⟩
noncomputable def a17 : AFn :=
⟨39,[(.t 4)],(.seq (.reg [⟨(some 4),(.q (.mv (.c (.int .i64 (.ofNat 0))))),none,0⟩])
(.seq (.seq (.drw [⟨(some 5),(.q (.mv (.t 0))),none,0⟩,
⟨(some 6),(.q (.nilchk (.t 5))),none,1⟩,
⟨(some 7),(.q (.faddr 1 (.t 6))),none,3⟩,
⟨(some 8),(.q (.ld false 1 (.t 7))),none,7⟩,
⟨(some 9),(.q (.mv (.t 0))),none,0⟩,
⟨(some 10),(.q (.nilchk (.t 9))),none,16⟩,
⟨(some 11),(.q (.faddr 0 (.t 10))),none,48⟩,
⟨(some 12),(.q (.ld false 1 (.t 11))),none,112⟩,
⟨(some 13),(.q (.lenSl (.t 12))),none,240⟩,
⟨(some 14),(.q (.bin .geq (.p .int) (.t 8) (.t 13))),none,511⟩,
⟨(some 15),(.q (.mv (.t 14))),none,1023⟩,
⟨(some 16),(.q (.mv (.t 1))),(some (15,false)),2047⟩,
⟨(some 17),(.q (.bin .lss (.p .int) (.t 16) (.c (.int .i64 (.ofNat 1))))),(some (15,false)),4095⟩,
⟨(some 18),(.q (.pick (.t 15) (.c (.bool true)) (.t 17))),none,8191⟩])
(.cond (.t 18) (.seq (.reg [⟨(some 4),(.q (.mv (.c (.int .i64 (.ofNat 0))))),none,0⟩])
.ret) .skip))
(.seq (.reg [⟨(some 19),(.q (.mv (.t 0))),none,0⟩,
⟨(some 20),(.q (.nilchk (.t 19))),none,0⟩,
⟨(some 21),(.q (.faddr 1 (.t 20))),none,0⟩,
⟨(some 22),(.q (.ld false 1 (.t 21))),none,0⟩,
⟨(some 23),(.q (.bin .add (.p .int) (.t 22) (.c (.int .i64 (.ofNat 1))))),none,0⟩,
⟨(some 24),(.q (.nilchk (.t 19))),none,0⟩,
⟨(some 25),(.q (.faddr 1 (.t 24))),none,0⟩,
⟨none,(.x (.st 1 (.t 25) (.t 23))),none,0⟩])
(.seq (.drw [⟨(some 26),(.q (.mv (.t 0))),none,0⟩,
⟨(some 27),(.q (.nilchk (.t 26))),none,1⟩,
⟨(some 28),(.q (.faddr 0 (.t 27))),none,3⟩,
⟨(some 29),(.q (.ld false 1 (.t 28))),none,7⟩,
⟨(some 30),(.q (.mv (.t 0))),none,0⟩,
⟨(some 31),(.q (.nilchk (.t 30))),none,16⟩,
⟨(some 32),(.q (.faddr 1 (.t 31))),none,48⟩,
⟨(some 33),(.q (.ld false 1 (.t 32))),none,112⟩,
⟨(some 34),(.q (.bin .sub (.p .int) (.t 33) (.c (.int .i64 (.ofNat 1))))),none,240⟩,
⟨(some 35),(.q (.iaddr (.slice 1) (.t 29) (.t 34))),none,511⟩,
⟨(some 36),(.q (.ld false 1 (.t 35))),none,1023⟩,
⟨(some 37),(.q (.mv (.t 1))),none,0⟩,
⟨(some 38),(.x (.call (.c (.fn 34 [] [])) [(.t 36),(.t 37)])),none,4095⟩,
⟨(some 4),(.q (.mv (.t 38))),none,8191⟩])
.ret))))⟩
theorem row17 : Row Go.Proofs.Tryd.prog (17, a17) := ⟨Go.Proofs.Tryd.f17, Go.Proofs.Tryd.func17, by kernel_rfl⟩
noncomputable def a18 : AFn :=
⟨46,[(.t 4),(.t 5)],(.seq (.reg [⟨(some 2),(.a (.box 25 (.t 0))),none,0⟩,
⟨(some 3),(.a (.box 25 (.t 1))),none,0⟩,
⟨(some 4),(.q (.mv (.c (.int .i64 (.ofNat 0))))),none,0⟩,
⟨(some 5),(.q (.mv (.c (.int .i64 (.ofNat 0))))),none,0⟩])
(.seq (.seq (.reg [⟨(some 9),(.q (.ld true 3 (.t 2))),none,0⟩,
⟨(some 10),(.q (.ld true 3 (.t 3))),none,0⟩,
⟨(some 11),(.x (.call (.c (.fn 62 [] [])) [(.t 9),(.t 10)])),none,0⟩,
⟨(some 6),(.q (.mv (.t 11))),none,0⟩])
(.seq (.reg [⟨(some 12),(.q (.mv (.t 6))),none,0⟩,
⟨(some 13),(.q (.bin .neq (.p .int) (.t 12) (.c (.int .i64 (.ofNat 0))))),none,0⟩])
(.cond (.t 13) (.seq (.reg [⟨(some 14),(.q (.mv (.t 6))),none,0⟩,
⟨(some 4),(.q (.mv (.c (.int .i64 (.ofNat 0))))),none,0⟩,
⟨(some 5),(.q (.mv (.t 14))),none,0⟩])
.ret) .skip)))
(.seq (.drw [⟨(some 15),(.q (.ld true 3 (.t 2))),none,0⟩,
⟨(some 16),(.x (.call (.c (.fn 51 [] [])) [(.t 15)])),none,1⟩,
⟨(some 17),(.q (.ld true 3 (.t 3))),none,0⟩,
⟨(some 18),(.x (.call (.c (.fn 51 [] [])) [(.t 17)])),none,7⟩,
⟨(some 7),(.q (.mv (.t 16))),none,15⟩,
⟨(some 8),(.q (.mv (.t 18))),none,31⟩])
(.seq (.block 0 (.seq (.reg [⟨(some 20),(.q (.mv (.t 7))),none,0⟩,
⟨(some 21),(.q (.mv (.t 8))),none,0⟩,
⟨(some 22),(.q (.bin .lss (.p .int) (.t 20) (.t 21))),none,0⟩,
⟨(some 19),(.q (.mv (.t 22))),none,0⟩])
(.cond (.t 19) (.seq (.reg [⟨(some 23),(.q (.iaddr (.arr 3 1) (.c (.ptr 0 0)) (.c (.int .i64 (.ofNat 0))))),none,0⟩,
⟨(some 24),(.q (.ld false 1 (.t 23))),none,0⟩,
⟨(some 4),(.q (.mv (.t 24))),none,0⟩,
⟨(some 5),(.q (.mv (.c (.int .i64 (.ofNat 0))))),none,0⟩])
.ret) (.seq (.reg [⟨(some 26),(.q (.mv (.t 7))),none,0⟩,
⟨(some 27),(.q (.mv (.t 8))),none,0⟩,
⟨(some 28),(.q (.bin .gtr (.p .int) (.t 26) (.t 27))),none,0⟩,
⟨(some 25),(.q (.mv (.t 28))),none,0⟩])
(.cond (.t 25) (.seq (.reg [⟨(some 29),(.q (.iaddr (.arr 3 1) (.c (.ptr 0 0)) (.c (.int .i64 (.ofNat 2))))),none,0⟩,
⟨(some 30),(.q (.ld false 1 (.t 29))),none,0⟩,
⟨(some 4),(.q (.mv (.t 30))),none,0⟩,
⟨(some 5),(.q (.mv (.c (.int .i64 (.ofNat 0))))),none,0⟩])
.ret) .skip)))))
(.seq (.drw [⟨(some 31),(.q (.mv (.t 7))),none,0⟩,
⟨(some 32),(.q (.iaddr (.arr 3 1) (.c (.ptr 0 0)) (.t 31))),none,1⟩,
⟨(some 33),(.q (.ld false 1 (.t 32))),none,3⟩,
⟨(some 34),(.q (.faddr 1 (.t 2))),none,0⟩,
⟨(some 35),(.q (.ld false 1 (.t 34))),none,8⟩,
⟨(some 36),(.q (.faddr 2 (.t 3))),none,0⟩,
⟨(some 37),(.q (.ld false 1 (.t 36))),none,32⟩,
⟨(some 38),(.x (.call (.c (.fn 64 [] [])) [(.t 35),(.t 37)])),none,120⟩,
⟨(some 39),(.q (.faddr 1 (.t 3))),none,0⟩,
⟨(some 40),(.q (.ld false 1 (.t 39))),none,256⟩,
⟨(some 41),(.q (.faddr 2 (.t 2))),none,0⟩,
⟨(some 42),(.q (.ld false 1 (.t 41))),none,1024⟩,
⟨(some 43),(.x (.call (.c (.fn 64 [] [])) [(.t 40),(.t 42)])),none,4088⟩,
⟨(some 44),(.x (.call (.c (.fn 63 [] [])) [(.t 38),(.t 43)])),none,8184⟩,
⟨(some 45),(.q (.bin .mul (.p .int) (.t 33) (.t 44))),none,16383⟩,
⟨(some 4),(.q (.mv (.t 45))),none,32767⟩,
⟨(some 5),(.q (.mv (.c (.int .i64 (.ofNat 0))))),none,65535⟩])
.ret)))))⟩
theorem row18 : Row Go.Proofs.Tryd.prog (18, a18) := ⟨Go.Proofs.Tryd.f18, Go.Proofs.Tryd.func18, by kernel_rfl⟩
noncomputable def a19 : AFn :=
⟨8,[(.cell 4 true 3)],(.seq (.reg [⟨(some 4),(.a (.alloc 25 [(.bool false),.nilsl,.nilsl])),none,0⟩])
(.seq (.reg [⟨(some 5),(.q (.mv (.t 0))),none,0⟩,
⟨(some 6),(.q (.mv (.t 1))),none,0⟩,
⟨(some 7),(.x (.call (.c (.fn 16 [] [])) [(.t 5),(.t 6)])),none,0⟩,
⟨none,(.x (.st 3 (.t 4) (.t 7))),none,0⟩])
.ret))⟩
theorem row19 : Row Go.Proofs.Tryd.prog (19, a19) := ⟨Go.Proofs.Tryd.f19, Go.Proofs.Tryd.func19, by kernel_rfl⟩
noncomputable def a20 : AFn :=
⟨14,[(.cell 4 true 3)],(.seq (.reg [⟨(some 2),(.a (.box 25 (.t 0))),none,0⟩,
⟨(some 3),(.a (.box 25 (.t 1))),none,0⟩,
⟨(some 4),(.a (.alloc 25 [(.bool false),.nilsl,.nilsl])),none,0⟩])
(.seq (.reg [⟨(some 8),(.q (.ld true 3 (.t 2))),none,0⟩,
⟨(some 9),(.q (.ld true 3 (.t 3))),none,0⟩,
⟨(some 10),(.x (.call (.c (.fn 22 [] [])) [(.t 8),(.t 9)])),none,0⟩,
⟨(some 7),(.q (.mv (.t 10))),none,0⟩,
⟨(some 11),(.q (.extract (.t 7) 0)),none,0⟩,
⟨(some 12),(.q (.extract (.t 7) 1)),none,0⟩,
⟨(some 5),(.a (.alloc 25 [(.bool false),.nilsl,.nilsl])),none,0⟩,
⟨none,(.x (.st 3 (.t 5) (.t 11))),none,0⟩,
⟨(some 6),(.q (.mv (.t 12))),none,0⟩])
(.seq (.reg [⟨(some 13),(.q (.ld true 3 (.t 5))),none,0⟩,
⟨none,(.x (.st 3 (.t 4) (.t 13))),none,0⟩])
.ret)))⟩
theorem row20 : Row Go.Proofs.Tryd.prog (20, a20) := ⟨Go.Proofs.Tryd.f20, Go.Proofs.Tryd.func20, by kernel_rfl⟩
noncomputable def a22 : AFn :=
⟨27,[(.cell 4 true 3),(.t 5)],(.seq (.reg [⟨(some 2),(.a (.box 25 (.t 0))),none,0⟩,
⟨(some 3),(.a (.box 25 (.t 1))),none,0⟩,
⟨(some 4),(.a (.alloc 25 [(.bool false),.nilsl,.nilsl])),none,0⟩,
⟨(some 5),(.q (.mv (.c (.int .i64 (.ofNat 0))))),none,0⟩])
(.seq (.seq (.reg [⟨(some 8),(.q (.ld true 3 (.t 2))),none,0⟩,
⟨(some 9),(.q (.ld true 3 (.t 3))),none,0⟩,
⟨(some 10),(.x (.call (.c (.fn 62 [] [])) [(.t 8),(.t 9)])),none,0⟩,
⟨(some 6),(.q (.mv (.t 10))),none,0⟩])
(.seq (.reg [⟨(some 11),(.q (.mv (.t 6))),none,0⟩,
⟨(some 12),(.q (.bin .neq (.p .int) (.t 11) (.c (.int .i64 (.ofNat 0))))),none,0⟩])
(.cond (.t 12) (.seq (.reg [⟨(some 13),(.q (.build [(.bool false),.nilsl,.nilsl] [])),none,0⟩,
⟨(some 14),(.q (.mv (.t 6))),none,0⟩,
⟨none,(.x (.st 3 (.t 4) (.t 13))),none,0⟩,
⟨(some 5),(.q (.mv (.t 14))),none,0⟩])
.ret) .skip)))
(.seq (.reg [⟨(some 15),(.x (.call (.c (.fn 66 [] [])) [])),none,0⟩,
⟨(some 16),(.x (.call (.c (.fn 65 [] [])) [(.c (.bool false)),(.t 15)])),none,0⟩,
⟨(some 7),(.a (.alloc 25 [(.bool false),.nilsl,.nilsl])),none,0⟩,
⟨none,(.x (.st 3 (.t 7) (.t 16))),none,0⟩])
(.seq (.reg [⟨(some 17),(.q (.ld true 3 (.t 2))),none,0⟩,
⟨(some 18),(.q (.ld true 3 (.t 7))),none,0⟩,
⟨(some 19),(.q (.build [(.bool false),.nilsl,.nilsl,(.bool false),.nilsl,.nilsl] [(0,3,(.t 17)),(3,3,(.t 18))])),none,0⟩,
⟨(some 20),(.q (.ld true 3 (.t 3))),none,0⟩,
⟨(some 21),(.q (.ld true 3 (.t 7))),none,0⟩,
⟨(some 22),(.q (.build [(.bool false),.nilsl,.nilsl,(.bool false),.nilsl,.nilsl] [(0,3,(.t 20)),(3,3,(.t 21))])),none,0⟩,
⟨(some 23),(.a (.bslice 80 6 2 [(.bool false),.nilsl,.nilsl,(.bool false),.nilsl,.nilsl] [(0,(.t 19)),(1,(.t 22))])),none,0⟩,
⟨(some 24),(.x (.call (.c (.fn 67 [] [])) [(.t 23)])),none,0⟩,
⟨(some 25),(.q (.extract (.t 24) 0)),none,0⟩,
⟨(some 26),(.q (.extract (.t 24) 1)),none,0⟩,
⟨none,(.x (.st 3 (.t 4) (.t 25))),none,0⟩,
⟨(some 5),(.q (.mv (.t 26))),none,0⟩])
.ret))))⟩
theorem row22 : Row Go.Proofs.Tryd.prog (22, a22) := ⟨Go.Proofs.Tryd.f22, Go.Proofs.Tryd.func22, by kernel_rfl⟩
noncomputable def a31 : AFn :=
⟨28,[(.t 2)],(.seq (.reg [⟨(some 1),(.a (.box 25 (.t 0))),none,0⟩,
⟨(some 2),(.q (.mv (.c (.int .i64 (.ofNat 0))))),none,0⟩])
(.seq (.seq (.reg [⟨(some 4),(.q (.faddr 1 (.t 1))),none,0⟩,
⟨(some 5),(.q (.ld false 1 (.t 4))),none,0⟩,
⟨(some 6),(.q (.faddr 2 (.t 1))),none,0⟩,
⟨(some 7),(.q (.ld false 1 (.t 6))),none,0⟩,
⟨(some 8),(.x (.call (.c (.fn 74 [] [])) [(.t 5),(.t 7)])),none,0⟩,
⟨(some 3),(.q (.mv (.t 8))),none,0⟩])
(.seq (.reg [⟨(some 9),(.q (.mv (.t 3))),none,0⟩,
⟨(some 10),(.q (.bin .neq (.p .int) (.t 9) (.c (.int .i64 (.ofNat 0))))),none,0⟩])
(.cond (.t 10) (.seq (.reg [⟨(some 11),(.q (.mv (.t 3))),none,0⟩,
⟨(some 2),(.q (.mv (.t 11))),none,0⟩])
.ret) .skip)))
(.seq (.seq (.reg [⟨(some 12),(.q (.faddr 1 (.t 1))),none,0⟩,
⟨(some 13),(.q (.ld false 1 (.t 12))),none,0⟩,
⟨(some 14),(.q (.lenSl (.t 13))),none,0⟩,
⟨(some 15),(.q (.bin .eql (.p .int) (.t 14) (.c (.int .i64 (.ofNat 0))))),none,0⟩,
⟨(some 16),(.q (.mv (.t 15))),none,0⟩,
⟨(some 17),(.q (.faddr 0 (.t 1))),(some (16,true)),0⟩,
⟨(some 18),(.q (.ld false 1 (.t 17))),(some (16,true)),0⟩,
⟨(some 19),(.q (.pick (.t 16) (.t 18) (.c (.bool false)))),none,0⟩,
⟨(some 20),(.q (.mv (.t 19))),none,0⟩,
⟨(some 21),(.q (.faddr 1 (.t 1))),(some (20,false)),0⟩,
⟨(some 22),(.q (.ld false 1 (.t 21))),(some (20,false)),0⟩,
⟨(some 23),(.q (.faddr 2 (.t 1))),(some (20,false)),0⟩,
⟨(some 24),(.q (.ld false 1 (.t 23))),(some (20,false)),0⟩,
⟨(some 25),(.x (.call (.c (.fn 75 [] [])) [(.t 22),(.t 24)])),(some (20,false)),0⟩,
⟨(some 26),(.q (.un .not (.t 25))),(some (20,false)),0⟩,
⟨(some 27),(.q (.pick (.t 20) (.c (.bool true)) (.t 26))),none,0⟩])
(.cond (.t 27) (.seq (.reg [⟨(some 2),(.q (.mv (.c (.int .i64 (.ofNat 3))))),none,0⟩])
.ret) .skip))
(.seq (.reg [⟨(some 2),(.q (.mv (.c (.int .i64 (.ofNat 0))))),none,0⟩])
.ret))))⟩
theorem row31 : Row Go.Proofs.Tryd.prog (31, a31) := ⟨Go.Proofs.Tryd.f31, Go.Proofs.Tryd.func31, by kernel_rfl⟩
noncomputable def a34 : AFn :=
⟨14,[(.t 4)],(.seq (.reg [⟨(some 4),(.q (.mv (.c (.int .i64 (.ofNat 0))))),none,0⟩])
(.seq (.reg [⟨(some 5),(.q (.mv (.t 0))),none,0⟩,
⟨(some 6),(.q (.mv (.t 1))),none,0⟩,
⟨(some 7),(.q (.bin .rem (.p .int) (.t 5) (.t 6))),none,0⟩,
⟨(some 0),(.q (.mv (.t 7))),none,0⟩])
(.seq (.seq (.reg [⟨(some 8),(.q (.mv (.t 0))),none,0⟩,
⟨(some 9),(.q (.bin .lss (.p .int) (.t 8) (.c (.int .i64 (.ofNat 0))))),none,0⟩])
(.cond (.t 9) (.reg [⟨(some 10),(.q (.mv (.t 0))),none,0⟩,
⟨(some 11),(.q (.mv (.t 1))),none,0⟩,
⟨(some 12),(.q (.bin .add (.p .int) (.t 10) (.t 11))),none,0⟩,
⟨(some 0),(.q (.mv (.t 12))),none,0⟩]) .skip))
(.seq (.reg [⟨(some 13),(.q (.mv (.t 0))),none,0⟩,
⟨(some 4),(.q (.mv (.t 13))),none,0⟩])
.ret))))⟩
theorem row34 : Row Go.Proofs.Tryd.prog (34, a34) := ⟨Go.Proofs.Tryd.f34, Go.Proofs.Tryd.func34, by kernel_rfl⟩
noncomputable def a50 : AFn :=
⟨12,[(.cell 2 true 3)],(.seq (.reg [⟨(some 1),(.a (.box 25 (.t 0))),none,0⟩,
⟨(some 2),(.a (.alloc 25 [(.bool false),.nilsl,.nilsl])),none,0⟩])
(.seq (.drw [⟨(some 3),(.q (.faddr 0 (.t 1))),none,0⟩,
⟨(some 4),(.q (.ld false 1 (.t 3))),none,1⟩,
⟨(some 5),(.q (.faddr 1 (.t 1))),none,0⟩,
⟨(some 6),(.q (.ld false 1 (.t 5))),none,4⟩,
⟨(some 7),(.x (.call (.c (.fn 96 [] [])) [(.t 6)])),none,12⟩,
⟨(some 8),(.q (.faddr 2 (.t 1))),none,0⟩,
⟨(some 9),(.q (.ld false 1 (.t 8))),none,32⟩,
⟨(some 10),(.x (.call (.c (.fn 96 [] [])) [(.t 9)])),none,124⟩,
⟨(some 11),(.q (.build [(.bool false),.nilsl,.nilsl] [(0,1,(.t 4)),(1,1,(.t 7)),(2,1,(.t 10))])),none,255⟩,
⟨none,(.x (.st 3 (.t 2) (.t 11))),none,511⟩])
.ret))⟩
theorem row50 : Row Go.Proofs.Tryd.prog (50, a50) := ⟨Go.Proofs.Tryd.f50, Go.Proofs.Tryd.func50, by kernel_rfl⟩
noncomputable def a51 : AFn :=
⟨11,[(.t 2)],(.seq (.reg [⟨(some 1),(.a (.box 25 (.t 0))),none,0⟩,
⟨(some 2),(.q (.mv (.c (.int .i64 (.ofNat 0))))),none,0⟩])
(.seq (.block 0 (.seq (.reg [⟨(some 4),(.q (.faddr 1 (.t 1))),none,0⟩,
⟨(some 5),(.q (.ld false 1 (.t 4))),none,0⟩,
⟨(some 6),(.q (.lenSl (.t 5))),none,0⟩,
⟨(some 7),(.q (.bin .eql (.p .int) (.t 6) (.c (.int .i64 (.ofNat 0))))),none,0⟩,
⟨(some 3),(.q (.mv (.t 7))),none,0⟩])
(.cond (.t 3) (.seq (.reg [⟨(some 2),(.q (.mv (.c (.int .i64 (.ofNat 1))))),none,0⟩])
.ret) (.seq (.reg [⟨(some 9),(.q (.faddr 0 (.t 1))),none,0⟩,
⟨(some 10),(.q (.ld false 1 (.t 9))),none,0⟩,
⟨(some 8),(.q (.mv (.t 10))),none,0⟩])
(.cond (.t 8) (.seq (.reg [⟨(some 2),(.q (.mv (.c (.int .i64 (.ofNat 0))))),none,0⟩])
.ret) .skip)))))
(.seq (.reg [⟨(some 2),(.q (.mv (.c (.int .i64 (.ofNat 2))))),none,0⟩])
.ret)))⟩
theorem row51 : Row Go.Proofs.Tryd.prog (51, a51) := ⟨Go.Proofs.Tryd.f51, Go.Proofs.Tryd.func51, by kernel_rfl⟩
noncomputable def a52 : AFn :=
⟨9,[(.cell 2 true 3),(.t 3)],(.seq (.reg [⟨(some 1),(.a (.box 25 (.t 0))),none,0⟩,
⟨(some 2),(.a (.alloc 25 [(.bool false),.nilsl,.nilsl])),none,0⟩,
⟨(some 3),(.q (.mv (.c (.int .i64 (.ofNat 0))))),none,0⟩])
(.seq (.seq (.reg [⟨(some 4),(.q (.ld true 3 (.t 1))),none,0⟩,
⟨(some 5),(.x (.call (.c (.fn 97 [] [])) [(.t 4)])),none,0⟩,
⟨(some 6),(.q (.un .not (.t 5))),none,0⟩])
(.cond (.t 6) (.seq (.reg [⟨(some 7),(.q (.build [(.bool false),.nilsl,.nilsl] [])),none,0⟩,
⟨none,(.x (.st 3 (.t 2) (.t 7))),none,0⟩,
⟨(some 3),(.q (.mv (.c (.int .i64 (.ofNat 5))))),none,0⟩])
.ret) .skip))
(.seq (.reg [⟨(some 8),(.q (.ld true 3 (.t 1))),none,0⟩,
⟨none,(.x (.st 3 (.t 2) (.t 8))),none,0⟩,
⟨(some 3),(.q (.mv (.c (.int .i64 (.ofNat 0))))),none,0⟩])
.ret)))⟩
theorem row52 : Row Go.Proofs.Tryd.prog (52, a52) := ⟨Go.Proofs.Tryd.f52, Go.Proofs.Tryd.func52, by kernel_rfl⟩
end Go.Ev.Gl
