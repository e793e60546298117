/- Functions of the program as data of the evaluator, written by program; each is shown to be the compiler's result on the loaded function. -/
import Derived.Test.YtmbmidkdinllgaaDoorProg
import Derived.Test.YtmbmidkdinllgaaDoorEv8
import Derived.KernelRfl
namespace Go.Ev.Gl
set_option maxRecDepth 100000
noncomputable def a7 : AFn :=
⟨191,[(.t 8)],(.seq (.reg [⟨(some 8),(.q (.mv (.c (.bool false)))),none,0⟩])
(.seq (.seq (.reg [⟨(some 17),(.q (.mv (.t 0))),none,0⟩,
⟨(some 18),(.q (.lenSl (.t 17))),none,0⟩,
⟨(some 19),(.q (.bin .gtr (.p .int) (.t 18) (.c (.int .i64 (.ofNat 8))))),none,0⟩,
⟨(some 20),(.q (.mv (.t 19))),none,0⟩,
⟨(some 21),(.q (.mv (.t 1))),(some (20,false)),0⟩,
⟨(some 22),(.q (.lenSl (.t 21))),(some (20,false)),0⟩,
⟨(some 23),(.q (.bin .gtr (.p .int) (.t 22) (.c (.int .i64 (.ofNat 8))))),(some (20,false)),0⟩,
⟨(some 24),(.q (.pick (.t 20) (.c (.bool true)) (.t 23))),none,0⟩,
⟨(some 25),(.q (.mv (.t 24))),none,0⟩,
⟨(some 26),(.q (.mv (.t 2))),(some (25,false)),0⟩,
⟨(some 27),(.q (.lenSl (.t 26))),(some (25,false)),0⟩,
⟨(some 28),(.q (.bin .gtr (.p .int) (.t 27) (.c (.int .i64 (.ofNat 8))))),(some (25,false)),0⟩,
⟨(some 29),(.q (.pick (.t 25) (.c (.bool true)) (.t 28))),none,0⟩])
(.cond (.t 29) (.seq (.reg [⟨(some 30),(.x (.call (.c (.fn 11 [] [])) [])),none,0⟩,
⟨(some 8),(.q (.mv (.t 30))),none,0⟩])
.ret) .skip))
(.seq (.reg [⟨(some 32),(.q (.mv (.t 0))),none,0⟩,
⟨(some 33),(.q (.mv (.t 1))),none,0⟩,
⟨(some 34),(.q (.mv (.t 3))),none,0⟩,
⟨(some 35),(.x (.call (.c (.fn 34 [] [])) [(.t 34),(.c (.int .i64 (.ofNat 2)))])),none,0⟩,
⟨(some 36),(.q (.bin .eql (.p .int) (.t 35) (.c (.int .i64 (.ofNat 1))))),none,0⟩,
⟨(some 37),(.x (.call (.c (.fn 33 [] [])) [(.t 32),(.t 33),(.t 36)])),none,0⟩,
⟨(some 31),(.q (.mv (.t 37))),none,0⟩,
⟨(some 38),(.q (.extract (.t 31) 0)),none,0⟩,
⟨(some 39),(.q (.extract (.t 31) 1)),none,0⟩,
⟨(some 9),(.a (.alloc 25 [(.bool false),.nilsl,.nilsl])),none,0⟩,
⟨none,(.x (.st 3 (.t 9) (.t 38))),none,0⟩,
⟨(some 10),(.q (.mv (.t 39))),none,0⟩])
(.seq (.reg [⟨(some 41),(.q (.mv (.t 1))),none,0⟩,
⟨(some 42),(.q (.mv (.t 2))),none,0⟩,
⟨(some 43),(.q (.mv (.t 3))),none,0⟩,
⟨(some 44),(.q (.bin .quo (.p .int) (.t 43) (.c (.int .i64 (.ofNat 2))))),none,0⟩,
⟨(some 45),(.x (.call (.c (.fn 34 [] [])) [(.t 44),(.c (.int .i64 (.ofNat 2)))])),none,0⟩,
⟨(some 46),(.q (.bin .eql (.p .int) (.t 45) (.c (.int .i64 (.ofNat 1))))),none,0⟩,
⟨(some 47),(.x (.call (.c (.fn 33 [] [])) [(.t 41),(.t 42),(.t 46)])),none,0⟩,
⟨(some 40),(.q (.mv (.t 47))),none,0⟩,
⟨(some 48),(.q (.extract (.t 40) 0)),none,0⟩,
⟨(some 49),(.q (.extract (.t 40) 1)),none,0⟩,
⟨(some 11),(.a (.alloc 25 [(.bool false),.nilsl,.nilsl])),none,0⟩,
⟨none,(.x (.st 3 (.t 11) (.t 48))),none,0⟩,
⟨(some 12),(.q (.mv (.t 49))),none,0⟩])
(.seq (.reg [⟨(some 51),(.q (.mv (.t 2))),none,0⟩,
⟨(some 52),(.q (.mv (.t 0))),none,0⟩,
⟨(some 53),(.q (.mv (.t 3))),none,0⟩,
⟨(some 54),(.q (.bin .quo (.p .int) (.t 53) (.c (.int .i64 (.ofNat 4))))),none,0⟩,
⟨(some 55),(.x (.call (.c (.fn 34 [] [])) [(.t 54),(.c (.int .i64 (.ofNat 2)))])),none,0⟩,
⟨(some 56),(.q (.bin .eql (.p .int) (.t 55) (.c (.int .i64 (.ofNat 1))))),none,0⟩,
⟨(some 57),(.x (.call (.c (.fn 33 [] [])) [(.t 51),(.t 52),(.t 56)])),none,0⟩,
⟨(some 50),(.q (.mv (.t 57))),none,0⟩,
⟨(some 58),(.q (.extract (.t 50) 0)),none,0⟩,
⟨(some 59),(.q (.extract (.t 50) 1)),none,0⟩,
⟨(some 13),(.a (.alloc 25 [(.bool false),.nilsl,.nilsl])),none,0⟩,
⟨none,(.x (.st 3 (.t 13) (.t 58))),none,0⟩,
⟨(some 14),(.q (.mv (.t 59))),none,0⟩])
(.seq (.seq (.reg [⟨(some 60),(.q (.mv (.t 10))),none,0⟩,
⟨(some 61),(.q (.un .not (.t 60))),none,0⟩,
⟨(some 62),(.q (.mv (.t 61))),none,0⟩,
⟨(some 63),(.q (.mv (.t 12))),(some (62,false)),0⟩,
⟨(some 64),(.q (.un .not (.t 63))),(some (62,false)),0⟩,
⟨(some 65),(.q (.pick (.t 62) (.c (.bool true)) (.t 64))),none,0⟩,
⟨(some 66),(.q (.mv (.t 65))),none,0⟩,
⟨(some 67),(.q (.mv (.t 14))),(some (66,false)),0⟩,
⟨(some 68),(.q (.un .not (.t 67))),(some (66,false)),0⟩,
⟨(some 69),(.q (.pick (.t 66) (.c (.bool true)) (.t 68))),none,0⟩])
(.cond (.t 69) (.seq (.reg [⟨(some 8),(.q (.mv (.c (.bool false)))),none,0⟩])
.ret) .skip))
(.seq (.seq (.drw [⟨(some 70),(.q (.ld true 3 (.t 9))),none,0⟩,
⟨(some 71),(.q (.ld true 3 (.t 11))),none,0⟩,
⟨(some 72),(.x (.call (.c (.fn 20 [] [])) [(.t 70),(.t 71)])),none,3⟩,
⟨(some 73),(.q (.ld true 3 (.t 11))),none,0⟩,
⟨(some 74),(.q (.ld true 3 (.t 9))),none,0⟩,
⟨(some 75),(.x (.call (.c (.fn 20 [] [])) [(.t 73),(.t 74)])),none,31⟩,
⟨(some 76),(.x (.call (.c (.fn 14 [] [])) [(.t 72),(.t 75)])),none,63⟩,
⟨(some 77),(.q (.un .not (.t 76))),none,127⟩,
⟨(some 78),(.q (.mv (.t 77))),none,255⟩,
⟨(some 79),(.q (.ld true 3 (.t 9))),(some (78,false)),511⟩,
⟨(some 80),(.q (.ld true 3 (.t 11))),(some (78,false)),511⟩,
⟨(some 81),(.x (.call (.c (.fn 35 [] [])) [(.t 79),(.t 80)])),(some (78,false)),2047⟩,
⟨(some 82),(.q (.ld true 3 (.t 11))),(some (78,false)),511⟩,
⟨(some 83),(.q (.ld true 3 (.t 9))),(some (78,false)),511⟩,
⟨(some 84),(.x (.call (.c (.fn 35 [] [])) [(.t 82),(.t 83)])),(some (78,false)),16383⟩,
⟨(some 85),(.x (.call (.c (.fn 14 [] [])) [(.t 81),(.t 84)])),(some (78,false)),32767⟩,
⟨(some 86),(.q (.un .not (.t 85))),(some (78,false)),65535⟩,
⟨(some 87),(.q (.pick (.t 78) (.c (.bool true)) (.t 86))),none,131071⟩,
⟨(some 88),(.q (.mv (.t 87))),none,262143⟩,
⟨(some 89),(.q (.ld true 3 (.t 9))),(some (88,false)),524287⟩,
⟨(some 90),(.q (.ld true 3 (.t 11))),(some (88,false)),524287⟩,
⟨(some 91),(.x (.call (.c (.fn 20 [] [])) [(.t 89),(.t 90)])),(some (88,false)),2097151⟩,
⟨(some 92),(.q (.ld true 3 (.t 13))),(some (88,false)),524287⟩,
⟨(some 93),(.x (.call (.c (.fn 20 [] [])) [(.t 91),(.t 92)])),(some (88,false)),8388607⟩,
⟨(some 94),(.q (.ld true 3 (.t 9))),(some (88,false)),524287⟩,
⟨(some 95),(.q (.ld true 3 (.t 11))),(some (88,false)),524287⟩,
⟨(some 96),(.q (.ld true 3 (.t 13))),(some (88,false)),524287⟩,
⟨(some 97),(.x (.call (.c (.fn 20 [] [])) [(.t 95),(.t 96)])),(some (88,false)),117440511⟩,
⟨(some 98),(.x (.call (.c (.fn 20 [] [])) [(.t 94),(.t 97)])),(some (88,false)),268435455⟩,
⟨(some 99),(.x (.call (.c (.fn 14 [] [])) [(.t 93),(.t 98)])),(some (88,false)),536870911⟩,
⟨(some 100),(.q (.un .not (.t 99))),(some (88,false)),1073741823⟩,
⟨(some 101),(.q (.pick (.t 88) (.c (.bool true)) (.t 100))),none,2147483647⟩,
⟨(some 102),(.q (.mv (.t 101))),none,4294967295⟩,
⟨(some 103),(.q (.ld true 3 (.t 9))),(some (102,false)),8589934591⟩,
⟨(some 104),(.q (.ld true 3 (.t 11))),(some (102,false)),8589934591⟩,
⟨(some 105),(.x (.call (.c (.fn 35 [] [])) [(.t 103),(.t 104)])),(some (102,false)),34359738367⟩,
⟨(some 106),(.q (.ld true 3 (.t 13))),(some (102,false)),8589934591⟩,
⟨(some 107),(.x (.call (.c (.fn 35 [] [])) [(.t 105),(.t 106)])),(some (102,false)),137438953471⟩,
⟨(some 108),(.q (.ld true 3 (.t 9))),(some (102,false)),8589934591⟩,
⟨(some 109),(.q (.ld true 3 (.t 11))),(some (102,false)),8589934591⟩,
⟨(some 110),(.q (.ld true 3 (.t 13))),(some (102,false)),8589934591⟩,
⟨(some 111),(.x (.call (.c (.fn 35 [] [])) [(.t 109),(.t 110)])),(some (102,false)),1924145348607⟩,
⟨(some 112),(.x (.call (.c (.fn 35 [] [])) [(.t 108),(.t 111)])),(some (102,false)),4398046511103⟩,
⟨(some 113),(.x (.call (.c (.fn 14 [] [])) [(.t 107),(.t 112)])),(some (102,false)),8796093022207⟩,
⟨(some 114),(.q (.un .not (.t 113))),(some (102,false)),17592186044415⟩,
⟨(some 115),(.q (.pick (.t 102) (.c (.bool true)) (.t 114))),none,35184372088831⟩,
⟨(some 116),(.q (.mv (.t 115))),none,70368744177663⟩,
⟨(some 117),(.q (.ld true 3 (.t 9))),(some (116,false)),140737488355327⟩,
⟨(some 118),(.q (.ld true 3 (.t 11))),(some (116,false)),140737488355327⟩,
⟨(some 119),(.q (.ld true 3 (.t 13))),(some (116,false)),140737488355327⟩,
⟨(some 120),(.x (.call (.c (.fn 20 [] [])) [(.t 118),(.t 119)])),(some (116,false)),985162418487295⟩,
⟨(some 121),(.x (.call (.c (.fn 35 [] [])) [(.t 117),(.t 120)])),(some (116,false)),2251799813685247⟩,
⟨(some 122),(.q (.ld true 3 (.t 9))),(some (116,false)),140737488355327⟩,
⟨(some 123),(.q (.ld true 3 (.t 11))),(some (116,false)),140737488355327⟩,
⟨(some 124),(.x (.call (.c (.fn 35 [] [])) [(.t 122),(.t 123)])),(some (116,false)),18014398509481983⟩,
⟨(some 125),(.q (.ld true 3 (.t 9))),(some (116,false)),140737488355327⟩,
⟨(some 126),(.q (.ld true 3 (.t 13))),(some (116,false)),140737488355327⟩,
⟨(some 127),(.x (.call (.c (.fn 35 [] [])) [(.t 125),(.t 126)])),(some (116,false)),144115188075855871⟩,
⟨(some 128),(.x (.call (.c (.fn 20 [] [])) [(.t 124),(.t 127)])),(some (116,false)),288230376151711743⟩,
⟨(some 129),(.x (.call (.c (.fn 14 [] [])) [(.t 121),(.t 128)])),(some (116,false)),576460752303423487⟩,
⟨(some 130),(.q (.un .not (.t 129))),(some (116,false)),1152921504606846975⟩,
⟨(some 131),(.q (.pick (.t 116) (.c (.bool true)) (.t 130))),none,2305843009213693951⟩])
(.cond (.t 131) (.seq (.reg [⟨(some 8),(.q (.mv (.c (.bool false)))),none,0⟩])
.ret) .skip))
(.seq (.drw [⟨(some 133),(.q (.ld true 3 (.t 9))),none,0⟩,
⟨(some 134),(.q (.ld true 3 (.t 11))),none,0⟩,
⟨(some 135),(.x (.call (.c (.fn 20 [] [])) [(.t 133),(.t 134)])),none,3⟩,
⟨(some 136),(.q (.ld true 3 (.t 11))),none,0⟩,
⟨(some 137),(.x (.call (.c (.fn 24 [] [])) [(.t 135),(.t 136)])),none,15⟩,
⟨(some 132),(.q (.mv (.t 137))),none,31⟩,
⟨(some 138),(.q (.extract (.t 132) 0)),none,63⟩,
⟨(some 139),(.q (.extract (.t 132) 1)),none,63⟩,
⟨(some 15),(.a (.alloc 25 [(.bool false),.nilsl,.nilsl])),none,0⟩,
⟨none,(.x (.st 3 (.t 15) (.t 138))),none,383⟩,
⟨(some 16),(.q (.mv (.t 139))),none,1023⟩])
(.seq (.seq (.drw [⟨(some 140),(.q (.mv (.t 16))),none,0⟩,
⟨(some 141),(.q (.bin .neq (.p .int) (.t 140) (.c (.int .i64 (.ofNat 0))))),none,1⟩,
⟨(some 142),(.q (.mv (.t 141))),none,3⟩,
⟨(some 143),(.q (.ld true 3 (.t 15))),(some (142,false)),7⟩,
⟨(some 144),(.q (.ld true 3 (.t 9))),(some (142,false)),7⟩,
⟨(some 145),(.x (.call (.c (.fn 14 [] [])) [(.t 143),(.t 144)])),(some (142,false)),31⟩,
⟨(some 146),(.q (.un .not (.t 145))),(some (142,false)),63⟩,
⟨(some 147),(.q (.pick (.t 142) (.c (.bool true)) (.t 146))),none,127⟩,
⟨(some 148),(.q (.mv (.t 147))),none,255⟩,
⟨(some 149),(.q (.ld true 3 (.t 9))),(some (148,false)),511⟩,
⟨(some 150),(.x (.call (.c (.fn 19 [] [])) [(.c (.int .i64 (.ofNat 0))),(.c (.int .i64 (.ofNat 1)))])),(some (148,false)),511⟩,
⟨(some 151),(.x (.call (.c (.fn 20 [] [])) [(.t 149),(.t 150)])),(some (148,false)),2047⟩,
⟨(some 152),(.q (.ld true 3 (.t 9))),(some (148,false)),511⟩,
⟨(some 153),(.x (.call (.c (.fn 14 [] [])) [(.t 151),(.t 152)])),(some (148,false)),8191⟩,
⟨(some 154),(.q (.un .not (.t 153))),(some (148,false)),16383⟩,
⟨(some 155),(.q (.pick (.t 148) (.c (.bool true)) (.t 154))),none,32767⟩,
⟨(some 156),(.q (.mv (.t 155))),none,65535⟩,
⟨(some 157),(.q (.ld true 3 (.t 9))),(some (156,false)),131071⟩,
⟨(some 158),(.x (.call (.c (.fn 19 [] [])) [(.c (.int .i64 (.ofNat 1))),(.c (.int .i64 (.ofNat 1)))])),(some (156,false)),131071⟩,
⟨(some 159),(.x (.call (.c (.fn 35 [] [])) [(.t 157),(.t 158)])),(some (156,false)),524287⟩,
⟨(some 160),(.q (.ld true 3 (.t 9))),(some (156,false)),131071⟩,
⟨(some 161),(.x (.call (.c (.fn 14 [] [])) [(.t 159),(.t 160)])),(some (156,false)),2097151⟩,
⟨(some 162),(.q (.un .not (.t 161))),(some (156,false)),4194303⟩,
⟨(some 163),(.q (.pick (.t 156) (.c (.bool true)) (.t 162))),none,8388607⟩])
(.cond (.t 163) (.seq (.reg [⟨(some 8),(.q (.mv (.c (.bool false)))),none,0⟩])
.ret) .skip))
(.seq (.drw [⟨(some 165),(.q (.ld true 3 (.t 9))),none,0⟩,
⟨(some 166),(.q (.ld true 3 (.t 11))),none,0⟩,
⟨(some 167),(.x (.call (.c (.fn 35 [] [])) [(.t 165),(.t 166)])),none,3⟩,
⟨(some 168),(.q (.ld true 3 (.t 11))),none,0⟩,
⟨(some 169),(.x (.call (.c (.fn 28 [] [])) [(.t 167),(.t 168)])),none,15⟩,
⟨(some 164),(.q (.mv (.t 169))),none,31⟩,
⟨(some 170),(.q (.extract (.t 164) 0)),none,63⟩,
⟨(some 171),(.q (.extract (.t 164) 1)),none,63⟩,
⟨none,(.x (.st 3 (.t 15) (.t 170))),none,127⟩,
⟨(some 16),(.q (.mv (.t 171))),none,511⟩])
(.seq (.seq (.reg [⟨(some 172),(.q (.faddr 1 (.t 11))),none,0⟩,
⟨(some 173),(.q (.ld false 1 (.t 172))),none,0⟩,
⟨(some 174),(.q (.lenSl (.t 173))),none,0⟩,
⟨(some 175),(.q (.bin .eql (.p .int) (.t 174) (.c (.int .i64 (.ofNat 0))))),none,0⟩])
(.cond (.t 175) (.seq (.reg [⟨(some 176),(.q (.mv (.t 16))),none,0⟩,
⟨(some 177),(.q (.bin .eql (.p .int) (.t 176) (.c (.int .i64 (.ofNat 6))))),none,0⟩,
⟨(some 178),(.q (.mv (.t 177))),none,0⟩,
⟨(some 179),(.x (.call (.c (.fn 11 [] [])) [])),(some (178,true)),0⟩,
⟨(some 180),(.q (.pick (.t 178) (.t 179) (.c (.bool false)))),none,0⟩,
⟨(some 8),(.q (.mv (.t 180))),none,0⟩])
.ret) .skip))
(.seq (.reg [⟨(some 181),(.q (.mv (.t 16))),none,0⟩,
⟨(some 182),(.q (.bin .eql (.p .int) (.t 181) (.c (.int .i64 (.ofNat 0))))),none,0⟩,
⟨(some 183),(.q (.mv (.t 182))),none,0⟩,
⟨(some 184),(.q (.ld true 3 (.t 15))),(some (183,true)),0⟩,
⟨(some 185),(.q (.ld true 3 (.t 9))),(some (183,true)),0⟩,
⟨(some 186),(.x (.call (.c (.fn 14 [] [])) [(.t 184),(.t 185)])),(some (183,true)),0⟩,
⟨(some 187),(.q (.pick (.t 183) (.t 186) (.c (.bool false)))),none,0⟩,
⟨(some 188),(.q (.mv (.t 187))),none,0⟩,
⟨(some 189),(.x (.call (.c (.fn 11 [] [])) [])),(some (188,true)),0⟩,
⟨(some 190),(.q (.pick (.t 188) (.t 189) (.c (.bool false)))),none,0⟩,
⟨(some 8),(.q (.mv (.t 190))),none,0⟩])
.ret))))))))))))⟩
theorem row7 : Row Go.Proofs.Tryd.prog (7, a7) := ⟨Go.Proofs.Tryd.f7, Go.Proofs.Tryd.func7, by kernel_rfl⟩
noncomputable def a14 : AFn :=
⟨24,[(.t 4)],(.seq (.reg [⟨(some 2),(.a (.box 25 (.t 0))),none,0⟩,
⟨(some 3),(.a (.box 25 (.t 1))),none,0⟩,
⟨(some 4),(.q (.mv (.c (.bool false)))),none,0⟩])
(.seq (.reg [⟨(some 5),(.q (.faddr 0 (.t 2))),none,0⟩,
⟨(some 6),(.q (.ld false 1 (.t 5))),none,0⟩,
⟨(some 7),(.q (.faddr 0 (.t 3))),none,0⟩,
⟨(some 8),(.q (.ld false 1 (.t 7))),none,0⟩,
⟨(some 9),(.q (.bin .eql (.p .bool) (.t 6) (.t 8))),none,0⟩,
⟨(some 10),(.q (.mv (.t 9))),none,0⟩,
⟨(some 11),(.q (.faddr 1 (.t 2))),(some (10,true)),0⟩,
⟨(some 12),(.q (.ld false 1 (.t 11))),(some (10,true)),0⟩,
⟨(some 13),(.q (.faddr 1 (.t 3))),(some (10,true)),0⟩,
⟨(some 14),(.q (.ld false 1 (.t 13))),(some (10,true)),0⟩,
⟨(some 15),(.x (.call (.c (.fn 38 [] [])) [(.t 12),(.t 14)])),(some (10,true)),0⟩,
⟨(some 16),(.q (.pick (.t 10) (.t 15) (.c (.bool false)))),none,0⟩,
⟨(some 17),(.q (.mv (.t 16))),none,0⟩,
⟨(some 18),(.q (.faddr 2 (.t 2))),(some (17,true)),0⟩,
⟨(some 19),(.q (.ld false 1 (.t 18))),(some (17,true)),0⟩,
⟨(some 20),(.q (.faddr 2 (.t 3))),(some (17,true)),0⟩,
⟨(some 21),(.q (.ld false 1 (.t 20))),(some (17,true)),0⟩,
⟨(some 22),(.x (.call (.c (.fn 38 [] [])) [(.t 19),(.t 21)])),(some (17,true)),0⟩,
⟨(some 23),(.q (.pick (.t 17) (.t 22) (.c (.bool false)))),none,0⟩,
⟨(some 4),(.q (.mv (.t 23))),none,0⟩])
.ret))⟩
theorem row14 : Row Go.Proofs.Tryd.prog (14, a14) := ⟨Go.Proofs.Tryd.f14, Go.Proofs.Tryd.func14, by kernel_rfl⟩
noncomputable def a16 : AFn :=
⟨31,[(.cell 4 true 3)],(.seq (.reg [⟨(some 4),(.a (.alloc 25 [(.bool false),.nilsl,.nilsl])),none,0⟩])
(.seq (.reg [⟨(some 6),(.q (.mv (.t 0))),none,0⟩,
⟨(some 7),(.q (.mv (.t 0))),none,0⟩,
⟨(some 8),(.q (.un .neg (.t 7))),none,0⟩,
⟨(some 9),(.q (.minmax true [(.t 6),(.t 8)])),none,0⟩,
⟨(some 10),(.q (.mv (.t 1))),none,0⟩,
⟨(some 11),(.x (.call (.c (.fn 60 [] [])) [(.t 9),(.t 10)])),none,0⟩,
⟨(some 5),(.q (.mv (.t 11))),none,0⟩])
(.seq (.drw [⟨(some 12),(.q (.mv (.t 0))),none,0⟩,
⟨(some 13),(.q (.mv (.t 5))),none,0⟩,
⟨(some 14),(.q (.bin .quo (.p .int) (.t 12) (.t 13))),none,3⟩,
⟨(some 15),(.q (.mv (.t 1))),none,0⟩,
⟨(some 16),(.q (.mv (.t 5))),none,0⟩,
⟨(some 17),(.q (.bin .quo (.p .int) (.t 15) (.t 16))),none,24⟩,
⟨(some 0),(.q (.mv (.t 14))),none,7⟩,
⟨(some 1),(.q (.mv (.t 17))),none,127⟩])
(.seq (.seq (.reg [⟨(some 18),(.q (.mv (.t 0))),none,0⟩,
⟨(some 19),(.q (.bin .lss (.p .int) (.t 18) (.c (.int .i64 (.ofNat 0))))),none,0⟩])
(.cond (.t 19) (.seq (.reg [⟨(some 20),(.q (.mv (.t 0))),none,0⟩,
⟨(some 21),(.q (.un .neg (.t 20))),none,0⟩,
⟨(some 22),(.x (.call (.c (.fn 61 [] [])) [(.t 21)])),none,0⟩,
⟨(some 23),(.q (.mv (.t 1))),none,0⟩,
⟨(some 24),(.x (.call (.c (.fn 61 [] [])) [(.t 23)])),none,0⟩,
⟨(some 25),(.q (.build [(.bool false),.nilsl,.nilsl] [(0,1,(.c (.bool true))),(1,1,(.t 22)),(2,1,(.t 24))])),none,0⟩,
⟨none,(.x (.st 3 (.t 4) (.t 25))),none,0⟩])
.ret) .skip))
(.seq (.reg [⟨(some 26),(.q (.mv (.t 0))),none,0⟩,
⟨(some 27),(.x (.call (.c (.fn 61 [] [])) [(.t 26)])),none,0⟩,
⟨(some 28),(.q (.mv (.t 1))),none,0⟩,
⟨(some 29),(.x (.call (.c (.fn 61 [] [])) [(.t 28)])),none,0⟩,
⟨(some 30),(.q (.build [(.bool false),.nilsl,.nilsl] [(1,1,(.t 27)),(2,1,(.t 29))])),none,0⟩,
⟨none,(.x (.st 3 (.t 4) (.t 30))),none,0⟩])
.ret)))))⟩
theorem row16 : Row Go.Proofs.Tryd.prog (16, a16) := ⟨Go.Proofs.Tryd.f16, Go.Proofs.Tryd.func16, by kernel_rfl⟩
noncomputable def a19 : AFn :=
⟨8,[(.cell 4 true 3)],(.seq (.reg [⟨(some 4),(.a (.alloc 25 [(.bool false),.nilsl,.nilsl])),none,0⟩])
(.seq (.reg [⟨(some 5),(.q (.mv (.t 0))),none,0⟩,
⟨(some 6),(.q (.mv (.t 1))),none,0⟩,
⟨(some 7),(.x (.call (.c (.fn 16 [] [])) [(.t 5),(.t 6)])),none,0⟩,
⟨none,(.x (.st 3 (.t 4) (.t 7))),none,0⟩])
.ret))⟩
theorem row19 : Row Go.Proofs.Tryd.prog (19, a19) := ⟨Go.Proofs.Tryd.f19, Go.Proofs.Tryd.func19, by kernel_rfl⟩
noncomputable def a20 : AFn :=
⟨14,[(.cell 4 true 3)],(.seq (.reg [⟨(some 2),(.a (.box 25 (.t 0))),none,0⟩,
⟨(some 3),(.a (.box 25 (.t 1))),none,0⟩,
⟨(some 4),(.a (.alloc 25 [(.bool false),.nilsl,.nilsl])),none,0⟩])
(.seq (.reg [⟨(some 8),(.q (.ld true 3 (.t 2))),none,0⟩,
⟨(some 9),(.q (.ld true 3 (.t 3))),none,0⟩,
⟨(some 10),(.x (.call (.c (.fn 22 [] [])) [(.t 8),(.t 9)])),none,0⟩,
⟨(some 7),(.q (.mv (.t 10))),none,0⟩,
⟨(some 11),(.q (.extract (.t 7) 0)),none,0⟩,
⟨(some 12),(.q (.extract (.t 7) 1)),none,0⟩,
⟨(some 5),(.a (.alloc 25 [(.bool false),.nilsl,.nilsl])),none,0⟩,
⟨none,(.x (.st 3 (.t 5) (.t 11))),none,0⟩,
⟨(some 6),(.q (.mv (.t 12))),none,0⟩])
(.seq (.reg [⟨(some 13),(.q (.ld true 3 (.t 5))),none,0⟩,
⟨none,(.x (.st 3 (.t 4) (.t 13))),none,0⟩])
.ret)))⟩
theorem row20 : Row Go.Proofs.Tryd.prog (20, a20) := ⟨Go.Proofs.Tryd.f20, Go.Proofs.Tryd.func20, by kernel_rfl⟩
noncomputable def a22 : AFn :=
⟨27,[(.cell 4 true 3),(.t 5)],(.seq (.reg [⟨(some 2),(.a (.box 25 (.t 0))),none,0⟩,
⟨(some 3),(.a (.box 25 (.t 1))),none,0⟩,
⟨(some 4),(.a (.alloc 25 [(.bool false),.nilsl,.nilsl])),none,0⟩,
⟨(some 5),(.q (.mv (.c (.int .i64 (.ofNat 0))))),none,0⟩])
(.seq (.seq (.reg [⟨(some 8),(.q (.ld true 3 (.t 2))),none,0⟩,
⟨(some 9),(.q (.ld true 3 (.t 3))),none,0⟩,
⟨(some 10),(.x (.call (.c (.fn 62 [] [])) [(.t 8),(.t 9)])),none,0⟩,
⟨(some 6),(.q (.mv (.t 10))),none,0⟩])
(.seq (.reg [⟨(some 11),(.q (.mv (.t 6))),none,0⟩,
⟨(some 12),(.q (.bin .neq (.p .int) (.t 11) (.c (.int .i64 (.ofNat 0))))),none,0⟩])
(.cond (.t 12) (.seq (.reg [⟨(some 13),(.q (.build [(.bool false),.nilsl,.nilsl] [])),none,0⟩,
⟨(some 14),(.q (.mv (.t 6))),none,0⟩,
⟨none,(.x (.st 3 (.t 4) (.t 13))),none,0⟩,
⟨(some 5),(.q (.mv (.t 14))),none,0⟩])
.ret) .skip)))
(.seq (.reg [⟨(some 15),(.x (.call (.c (.fn 66 [] [])) [])),none,0⟩,
⟨(some 16),(.x (.call (.c (.fn 65 [] [])) [(.c (.bool false)),(.t 15)])),none,0⟩,
⟨(some 7),(.a (.alloc 25 [(.bool false),.nilsl,.nilsl])),none,0⟩,
⟨none,(.x (.st 3 (.t 7) (.t 16))),none,0⟩])
(.seq (.reg [⟨(some 17),(.q (.ld true 3 (.t 2))),none,0⟩,
⟨(some 18),(.q (.ld true 3 (.t 7))),none,0⟩,
⟨(some 19),(.q (.build [(.bool false),.nilsl,.nilsl,(.bool false),.nilsl,.nilsl] [(0,3,(.t 17)),(3,3,(.t 18))])),none,0⟩,
⟨(some 20),(.q (.ld true 3 (.t 3))),none,0⟩,
⟨(some 21),(.q (.ld true 3 (.t 7))),none,0⟩,
⟨(some 22),(.q (.build [(.bool false),.nilsl,.nilsl,(.bool false),.nilsl,.nilsl] [(0,3,(.t 20)),(3,3,(.t 21))])),none,0⟩,
⟨(some 23),(.a (.bslice 80 6 2 [(.bool false),.nilsl,.nilsl,(.bool false),.nilsl,.nilsl] [(0,(.t 19)),(1,(.t 22))])),none,0⟩,
⟨(some 24),(.x (.call (.c (.fn 67 [] [])) [(.t 23)])),none,0⟩,
⟨(some 25),(.q (.extract (.t 24) 0)),none,0⟩,
⟨(some 26),(.q (.extract (.t 24) 1)),none,0⟩,
⟨none,(.x (.st 3 (.t 4) (.t 25))),none,0⟩,
⟨(some 5),(.q (.mv (.t 26))),none,0⟩])
.ret))))⟩
theorem row22 : Row Go.Proofs.Tryd.prog (22, a22) := ⟨Go.Proofs.Tryd.f22, Go.Proofs.Tryd.func22, by kernel_rfl⟩
noncomputable def a24 : AFn :=
⟨28,[(.cell 4 true 3),(.t 5)],(.seq (.reg [⟨(some 2),(.a (.box 25 (.t 0))),none,0⟩,
⟨(some 3),(.a (.box 25 (.t 1))),none,0⟩,
⟨(some 4),(.a (.alloc 25 [(.bool false),.nilsl,.nilsl])),none,0⟩,
⟨(some 5),(.q (.mv (.c (.int .i64 (.ofNat 0))))),none,0⟩])
(.seq (.seq (.reg [⟨(some 8),(.q (.ld true 3 (.t 2))),none,0⟩,
⟨(some 9),(.q (.ld true 3 (.t 3))),none,0⟩,
⟨(some 10),(.x (.call (.c (.fn 62 [] [])) [(.t 8),(.t 9)])),none,0⟩,
⟨(some 6),(.q (.mv (.t 10))),none,0⟩])
(.seq (.reg [⟨(some 11),(.q (.mv (.t 6))),none,0⟩,
⟨(some 12),(.q (.bin .neq (.p .int) (.t 11) (.c (.int .i64 (.ofNat 0))))),none,0⟩])
(.cond (.t 12) (.seq (.reg [⟨(some 13),(.q (.build [(.bool false),.nilsl,.nilsl] [])),none,0⟩,
⟨(some 14),(.q (.mv (.t 6))),none,0⟩,
⟨none,(.x (.st 3 (.t 4) (.t 13))),none,0⟩,
⟨(some 5),(.q (.mv (.t 14))),none,0⟩])
.ret) .skip)))
(.seq (.reg [⟨(some 15),(.x (.call (.c (.fn 66 [] [])) [])),none,0⟩,
⟨(some 16),(.x (.call (.c (.fn 65 [] [])) [(.c (.bool false)),(.t 15)])),none,0⟩,
⟨(some 7),(.a (.alloc 25 [(.bool false),.nilsl,.nilsl])),none,0⟩,
⟨none,(.x (.st 3 (.t 7) (.t 16))),none,0⟩])
(.seq (.drw [⟨(some 17),(.q (.ld true 3 (.t 2))),none,0⟩,
⟨(some 18),(.q (.ld true 3 (.t 7))),none,0⟩,
⟨(some 19),(.q (.build [(.bool false),.nilsl,.nilsl,(.bool false),.nilsl,.nilsl] [(0,3,(.t 17)),(3,3,(.t 18))])),none,3⟩,
⟨(some 20),(.q (.ld true 3 (.t 3))),none,0⟩,
⟨(some 21),(.x (.call (.c (.fn 54 [] [])) [(.t 20)])),none,8⟩,
⟨(some 22),(.q (.ld true 3 (.t 7))),none,0⟩,
⟨(some 23),(.q (.build [(.bool false),.nilsl,.nilsl,(.bool false),.nilsl,.nilsl] [(0,3,(.t 21)),(3,3,(.t 22))])),none,56⟩,
⟨(some 24),(.a (.bslice 80 6 2 [(.bool false),.nilsl,.nilsl,(.bool false),.nilsl,.nilsl] [(0,(.t 19)),(1,(.t 23))])),none,127⟩,
⟨(some 25),(.x (.call (.c (.fn 67 [] [])) [(.t 24)])),none,255⟩,
⟨(some 26),(.q (.extract (.t 25) 0)),none,511⟩,
⟨(some 27),(.q (.extract (.t 25) 1)),none,511⟩,
⟨none,(.x (.st 3 (.t 4) (.t 26))),none,2047⟩,
⟨(some 5),(.q (.mv (.t 27))),none,4095⟩])
.ret))))⟩
theorem row24 : Row Go.Proofs.Tryd.prog (24, a24) := ⟨Go.Proofs.Tryd.f24, Go.Proofs.Tryd.func24, by kernel_rfl⟩
noncomputable def a26 : AFn :=
⟨21,[(.cell 4 true 3),(.t 5)],(.seq (.reg [⟨(some 2),(.a (.box 25 (.t 0))),none,0⟩,
⟨(some 3),(.a (.box 25 (.t 1))),none,0⟩,
⟨(some 4),(.a (.alloc 25 [(.bool false),.nilsl,.nilsl])),none,0⟩,
⟨(some 5),(.q (.mv (.c (.int .i64 (.ofNat 0))))),none,0⟩])
(.seq (.seq (.reg [⟨(some 7),(.q (.ld true 3 (.t 2))),none,0⟩,
⟨(some 8),(.q (.ld true 3 (.t 3))),none,0⟩,
⟨(some 9),(.x (.call (.c (.fn 62 [] [])) [(.t 7),(.t 8)])),none,0⟩,
⟨(some 6),(.q (.mv (.t 9))),none,0⟩])
(.seq (.reg [⟨(some 10),(.q (.mv (.t 6))),none,0⟩,
⟨(some 11),(.q (.bin .neq (.p .int) (.t 10) (.c (.int .i64 (.ofNat 0))))),none,0⟩])
(.cond (.t 11) (.seq (.reg [⟨(some 12),(.q (.build [(.bool false),.nilsl,.nilsl] [])),none,0⟩,
⟨(some 13),(.q (.mv (.t 6))),none,0⟩,
⟨none,(.x (.st 3 (.t 4) (.t 12))),none,0⟩,
⟨(some 5),(.q (.mv (.t 13))),none,0⟩])
.ret) .skip)))
(.seq (.reg [⟨(some 14),(.q (.ld true 3 (.t 2))),none,0⟩,
⟨(some 15),(.q (.ld true 3 (.t 3))),none,0⟩,
⟨(some 16),(.q (.build [(.bool false),.nilsl,.nilsl,(.bool false),.nilsl,.nilsl] [(0,3,(.t 14)),(3,3,(.t 15))])),none,0⟩,
⟨(some 17),(.a (.bslice 80 6 1 [(.bool false),.nilsl,.nilsl,(.bool false),.nilsl,.nilsl] [(0,(.t 16))])),none,0⟩,
⟨(some 18),(.x (.call (.c (.fn 67 [] [])) [(.t 17)])),none,0⟩,
⟨(some 19),(.q (.extract (.t 18) 0)),none,0⟩,
⟨(some 20),(.q (.extract (.t 18) 1)),none,0⟩,
⟨none,(.x (.st 3 (.t 4) (.t 19))),none,0⟩,
⟨(some 5),(.q (.mv (.t 20))),none,0⟩])
.ret)))⟩
theorem row26 : Row Go.Proofs.Tryd.prog (26, a26) := ⟨Go.Proofs.Tryd.f26, Go.Proofs.Tryd.func26, by kernel_rfl⟩
noncomputable def a28 : AFn :=
⟨26,[(.cell 4 true 3),(.t 5)],(.seq (.reg [⟨(some 2),(.a (.box 25 (.t 0))),none,0⟩,
⟨(some 3),(.a (.box 25 (.t 1))),none,0⟩,
⟨(some 4),(.a (.alloc 25 [(.bool false),.nilsl,.nilsl])),none,0⟩,
⟨(some 5),(.q (.mv (.c (.int .i64 (.ofNat 0))))),none,0⟩])
(.seq (.seq (.reg [⟨(some 7),(.q (.ld true 3 (.t 2))),none,0⟩,
⟨(some 8),(.q (.ld true 3 (.t 3))),none,0⟩,
⟨(some 9),(.x (.call (.c (.fn 62 [] [])) [(.t 7),(.t 8)])),none,0⟩,
⟨(some 6),(.q (.mv (.t 9))),none,0⟩])
(.seq (.reg [⟨(some 10),(.q (.mv (.t 6))),none,0⟩,
⟨(some 11),(.q (.bin .neq (.p .int) (.t 10) (.c (.int .i64 (.ofNat 0))))),none,0⟩])
(.cond (.t 11) (.seq (.reg [⟨(some 12),(.q (.build [(.bool false),.nilsl,.nilsl] [])),none,0⟩,
⟨(some 13),(.q (.mv (.t 6))),none,0⟩,
⟨none,(.x (.st 3 (.t 4) (.t 12))),none,0⟩,
⟨(some 5),(.q (.mv (.t 13))),none,0⟩])
.ret) .skip)))
(.seq (.seq (.reg [⟨(some 14),(.q (.ld true 3 (.t 3))),none,0⟩,
⟨(some 15),(.x (.call (.c (.fn 51 [] [])) [(.t 14)])),none,0⟩,
⟨(some 16),(.q (.bin .eql (.p .int) (.t 15) (.c (.int .i64 (.ofNat 1))))),none,0⟩])
(.cond (.t 16) (.seq (.reg [⟨(some 17),(.q (.build [(.bool false),.nilsl,.nilsl] [])),none,0⟩,
⟨none,(.x (.st 3 (.t 4) (.t 17))),none,0⟩,
⟨(some 5),(.q (.mv (.c (.int .i64 (.ofNat 6))))),none,0⟩])
.ret) .skip))
(.seq (.drw [⟨(some 18),(.q (.ld true 3 (.t 2))),none,0⟩,
⟨(some 19),(.q (.ld true 3 (.t 3))),none,0⟩,
⟨(some 20),(.x (.call (.c (.fn 71 [] [])) [(.t 19)])),none,2⟩,
⟨(some 21),(.q (.build [(.bool false),.nilsl,.nilsl,(.bool false),.nilsl,.nilsl] [(0,3,(.t 18)),(3,3,(.t 20))])),none,7⟩,
⟨(some 22),(.a (.bslice 80 6 1 [(.bool false),.nilsl,.nilsl,(.bool false),.nilsl,.nilsl] [(0,(.t 21))])),none,15⟩,
⟨(some 23),(.x (.call (.c (.fn 67 [] [])) [(.t 22)])),none,31⟩,
⟨(some 24),(.q (.extract (.t 23) 0)),none,63⟩,
⟨(some 25),(.q (.extract (.t 23) 1)),none,63⟩,
⟨none,(.x (.st 3 (.t 4) (.t 24))),none,255⟩,
⟨(some 5),(.q (.mv (.t 25))),none,511⟩])
.ret))))⟩
theorem row28 : Row Go.Proofs.Tryd.prog (28, a28) := ⟨Go.Proofs.Tryd.f28, Go.Proofs.Tryd.func28, by kernel_rfl⟩
noncomputable def a31 : AFn :=
⟨28,[(.t 2)],(.seq (.reg [⟨(some 1),(.a (.box 25 (.t 0))),none,0⟩,
⟨(some 2),(.q (.mv (.c (.int .i64 (.ofNat 0))))),none,0⟩])
(.seq (.seq (.reg [⟨(some 4),(.q (.faddr 1 (.t 1))),none,0⟩,
⟨(some 5),(.q (.ld false 1 (.t 4))),none,0⟩,
⟨(some 6),(.q (.faddr 2 (.t 1))),none,0⟩,
⟨(some 7),(.q (.ld false 1 (.t 6))),none,0⟩,
⟨(some 8),(.x (.call (.c (.fn 74 [] [])) [(.t 5),(.t 7)])),none,0⟩,
⟨(some 3),(.q (.mv (.t 8))),none,0⟩])
(.seq (.reg [⟨(some 9),(.q (.mv (.t 3))),none,0⟩,
⟨(some 10),(.q (.bin .neq (.p .int) (.t 9) (.c (.int .i64 (.ofNat 0))))),none,0⟩])
(.cond (.t 10) (.seq (.reg [⟨(some 11),(.q (.mv (.t 3))),none,0⟩,
⟨(some 2),(.q (.mv (.t 11))),none,0⟩])
.ret) .skip)))
(.seq (.seq (.reg [⟨(some 12),(.q (.faddr 1 (.t 1))),none,0⟩,
⟨(some 13),(.q (.ld false 1 (.t 12))),none,0⟩,
⟨(some 14),(.q (.lenSl (.t 13))),none,0⟩,
⟨(some 15),(.q (.bin .eql (.p .int) (.t 14) (.c (.int .i64 (.ofNat 0))))),none,0⟩,
⟨(some 16),(.q (.mv (.t 15))),none,0⟩,
⟨(some 17),(.q (.faddr 0 (.t 1))),(some (16,true)),0⟩,
⟨(some 18),(.q (.ld false 1 (.t 17))),(some (16,true)),0⟩,
⟨(some 19),(.q (.pick (.t 16) (.t 18) (.c (.bool false)))),none,0⟩,
⟨(some 20),(.q (.mv (.t 19))),none,0⟩,
⟨(some 21),(.q (.faddr 1 (.t 1))),(some (20,false)),0⟩,
⟨(some 22),(.q (.ld false 1 (.t 21))),(some (20,false)),0⟩,
⟨(some 23),(.q (.faddr 2 (.t 1))),(some (20,false)),0⟩,
⟨(some 24),(.q (.ld false 1 (.t 23))),(some (20,false)),0⟩,
⟨(some 25),(.x (.call (.c (.fn 75 [] [])) [(.t 22),(.t 24)])),(some (20,false)),0⟩,
⟨(some 26),(.q (.un .not (.t 25))),(some (20,false)),0⟩,
⟨(some 27),(.q (.pick (.t 20) (.c (.bool true)) (.t 26))),none,0⟩])
(.cond (.t 27) (.seq (.reg [⟨(some 2),(.q (.mv (.c (.int .i64 (.ofNat 3))))),none,0⟩])
.ret) .skip))
(.seq (.reg [⟨(some 2),(.q (.mv (.c (.int .i64 (.ofNat 0))))),none,0⟩])
.ret))))⟩
theorem row31 : Row Go.Proofs.Tryd.prog (31, a31) := ⟨Go.Proofs.Tryd.f31, Go.Proofs.Tryd.func31, by kernel_rfl⟩
noncomputable def a33 : AFn :=
⟨33,[(.cell 6 true 3),(.t 7)],(.seq (.reg [⟨(some 6),(.a (.alloc 25 [(.bool false),.nilsl,.nilsl])),none,0⟩,
⟨(some 7),(.q (.mv (.c (.bool false)))),none,0⟩])
(.seq (.reg [⟨(some 11),(.q (.mv (.t 1))),none,0⟩,
⟨(some 12),(.x (.call (.c (.fn 78 [] [])) [(.t 11)])),none,0⟩,
⟨(some 8),(.q (.mv (.t 12))),none,0⟩])
(.seq (.seq (.reg [⟨(some 13),(.q (.mv (.t 8))),none,0⟩,
⟨(some 14),(.q (.lenSl (.t 13))),none,0⟩,
⟨(some 15),(.q (.bin .eql (.p .int) (.t 14) (.c (.int .i64 (.ofNat 0))))),none,0⟩])
(.cond (.t 15) (.reg [⟨(some 16),(.a (.bslice 41 1 1 [(.int .u32 (.ofNat 0))] [(0,(.c (.int .u32 (.ofNat 1))))])),none,0⟩,
⟨(some 8),(.q (.mv (.t 16))),none,0⟩]) .skip))
(.seq (.reg [⟨(some 18),(.q (.mv (.t 2))),none,0⟩,
⟨(some 19),(.q (.mv (.t 0))),none,0⟩,
⟨(some 20),(.x (.call (.c (.fn 78 [] [])) [(.t 19)])),none,0⟩,
⟨(some 21),(.q (.mv (.t 8))),none,0⟩,
⟨(some 22),(.x (.call (.c (.fn 41 [] [])) [(.t 18),(.t 20),(.t 21)])),none,0⟩,
⟨(some 17),(.q (.mv (.t 22))),none,0⟩,
⟨(some 23),(.q (.extract (.t 17) 0)),none,0⟩,
⟨(some 24),(.q (.extract (.t 17) 1)),none,0⟩,
⟨(some 9),(.a (.alloc 25 [(.bool false),.nilsl,.nilsl])),none,0⟩,
⟨none,(.x (.st 3 (.t 9) (.t 23))),none,0⟩,
⟨(some 10),(.q (.mv (.t 24))),none,0⟩])
(.seq (.drw [⟨(some 25),(.q (.ld true 3 (.t 9))),none,0⟩,
⟨(some 26),(.q (.mv (.t 10))),none,0⟩,
⟨(some 27),(.q (.bin .eql (.p .int) (.t 26) (.c (.int .i64 (.ofNat 0))))),none,2⟩,
⟨(some 28),(.q (.mv (.t 27))),none,6⟩,
⟨(some 29),(.q (.ld true 3 (.t 9))),(some (28,true)),14⟩,
⟨(some 30),(.x (.call (.c (.fn 31 [] [])) [(.t 29)])),(some (28,true)),30⟩,
⟨(some 31),(.q (.bin .eql (.p .int) (.t 30) (.c (.int .i64 (.ofNat 0))))),(some (28,true)),62⟩,
⟨(some 32),(.q (.pick (.t 28) (.t 31) (.c (.bool false)))),none,126⟩,
⟨none,(.x (.st 3 (.t 6) (.t 25))),none,63⟩,
⟨(some 7),(.q (.mv (.t 32))),none,511⟩])
.ret)))))⟩
theorem row33 : Row Go.Proofs.Tryd.prog (33, a33) := ⟨Go.Proofs.Tryd.f33, Go.Proofs.Tryd.func33, by kernel_rfl⟩
noncomputable def a34 : AFn :=
⟨14,[(.t 4)],(.seq (.reg [⟨(some 4),(.q (.mv (.c (.int .i64 (.ofNat 0))))),none,0⟩])
(.seq (.reg [⟨(some 5),(.q (.mv (.t 0))),none,0⟩,
⟨(some 6),(.q (.mv (.t 1))),none,0⟩,
⟨(some 7),(.q (.bin .rem (.p .int) (.t 5) (.t 6))),none,0⟩,
⟨(some 0),(.q (.mv (.t 7))),none,0⟩])
(.seq (.seq (.reg [⟨(some 8),(.q (.mv (.t 0))),none,0⟩,
⟨(some 9),(.q (.bin .lss (.p .int) (.t 8) (.c (.int .i64 (.ofNat 0))))),none,0⟩])
(.cond (.t 9) (.reg [⟨(some 10),(.q (.mv (.t 0))),none,0⟩,
⟨(some 11),(.q (.mv (.t 1))),none,0⟩,
⟨(some 12),(.q (.bin .add (.p .int) (.t 10) (.t 11))),none,0⟩,
⟨(some 0),(.q (.mv (.t 12))),none,0⟩]) .skip))
(.seq (.reg [⟨(some 13),(.q (.mv (.t 0))),none,0⟩,
⟨(some 4),(.q (.mv (.t 13))),none,0⟩])
.ret))))⟩
theorem row34 : Row Go.Proofs.Tryd.prog (34, a34) := ⟨Go.Proofs.Tryd.f34, Go.Proofs.Tryd.func34, by kernel_rfl⟩
noncomputable def a35 : AFn :=
⟨14,[(.cell 4 true 3)],(.seq (.reg [⟨(some 2),(.a (.box 25 (.t 0))),none,0⟩,
⟨(some 3),(.a (.box 25 (.t 1))),none,0⟩,
⟨(some 4),(.a (.alloc 25 [(.bool false),.nilsl,.nilsl])),none,0⟩])
(.seq (.reg [⟨(some 8),(.q (.ld true 3 (.t 2))),none,0⟩,
⟨(some 9),(.q (.ld true 3 (.t 3))),none,0⟩,
⟨(some 10),(.x (.call (.c (.fn 26 [] [])) [(.t 8),(.t 9)])),none,0⟩,
⟨(some 7),(.q (.mv (.t 10))),none,0⟩,
⟨(some 11),(.q (.extract (.t 7) 0)),none,0⟩,
⟨(some 12),(.q (.extract (.t 7) 1)),none,0⟩,
⟨(some 5),(.a (.alloc 25 [(.bool false),.nilsl,.nilsl])),none,0⟩,
⟨none,(.x (.st 3 (.t 5) (.t 11))),none,0⟩,
⟨(some 6),(.q (.mv (.t 12))),none,0⟩])
(.seq (.reg [⟨(some 13),(.q (.ld true 3 (.t 5))),none,0⟩,
⟨none,(.x (.st 3 (.t 4) (.t 13))),none,0⟩])
.ret)))⟩
theorem row35 : Row Go.Proofs.Tryd.prog (35, a35) := ⟨Go.Proofs.Tryd.f35, Go.Proofs.Tryd.func35, by kernel_rfl⟩
noncomputable def a38 : AFn :=
⟨26,[(.t 4)],(.seq (.reg [⟨(some 4),(.q (.mv (.c (.bool false)))),none,0⟩])
(.seq (.seq (.reg [⟨(some 6),(.q (.mv (.t 0))),none,0⟩,
⟨(some 7),(.q (.lenSl (.t 6))),none,0⟩,
⟨(some 8),(.q (.mv (.t 1))),none,0⟩,
⟨(some 9),(.q (.lenSl (.t 8))),none,0⟩,
⟨(some 10),(.q (.bin .neq (.p .int) (.t 7) (.t 9))),none,0⟩])
(.cond (.t 10) (.seq (.reg [⟨(some 4),(.q (.mv (.c (.bool false)))),none,0⟩])
.ret) .skip))
(.seq (.seq (.reg [⟨(some 5),(.q (.mv (.c (.int .i64 (.ofNat 0))))),none,0⟩])
(.block 0 (.loop (.seq (.seq (.reg [⟨(some 11),(.q (.mv (.t 5))),none,0⟩,
⟨(some 12),(.q (.mv (.t 0))),none,0⟩,
⟨(some 13),(.q (.lenSl (.t 12))),none,0⟩,
⟨(some 14),(.q (.bin .lss (.p .int) (.t 11) (.t 13))),none,0⟩])
(.cond (.t 14) .skip (.exit 0)))
(.seq (.block 1 (.seq (.drw [⟨(some 17),(.q (.mv (.t 0))),none,0⟩,
⟨(some 18),(.q (.mv (.t 5))),none,0⟩,
⟨(some 19),(.q (.iaddr (.slice 1) (.t 17) (.t 18))),none,3⟩,
⟨(some 20),(.q (.ld false 1 (.t 19))),none,7⟩,
⟨(some 21),(.q (.mv (.t 1))),none,0⟩,
⟨(some 22),(.q (.mv (.t 5))),none,0⟩,
⟨(some 23),(.q (.iaddr (.slice 1) (.t 21) (.t 22))),none,48⟩,
⟨(some 24),(.q (.ld false 1 (.t 23))),none,112⟩,
⟨(some 25),(.q (.bin .neq (.p .int) (.t 20) (.t 24))),none,255⟩])
(.cond (.t 25) (.seq (.reg [⟨(some 4),(.q (.mv (.c (.bool false)))),none,0⟩])
.ret) .skip)))
(.reg [⟨(some 15),(.q (.mv (.t 5))),none,0⟩,
⟨(some 16),(.q (.bin .add (.p .int) (.t 15) (.c (.int .i64 (.ofNat 1))))),none,0⟩,
⟨(some 5),(.q (.mv (.t 16))),none,0⟩]))))))
(.seq (.reg [⟨(some 4),(.q (.mv (.c (.bool true)))),none,0⟩])
.ret))))⟩
theorem row38 : Row Go.Proofs.Tryd.prog (38, a38) := ⟨Go.Proofs.Tryd.f38, Go.Proofs.Tryd.func38, by kernel_rfl⟩
noncomputable def a41 : AFn :=
⟨20,[(.cell 6 true 3),(.t 7)],(.seq (.reg [⟨(some 6),(.a (.alloc 25 [(.bool false),.nilsl,.nilsl])),none,0⟩,
⟨(some 7),(.q (.mv (.c (.int .i64 (.ofNat 0))))),none,0⟩])
(.seq (.seq (.reg [⟨(some 9),(.q (.mv (.t 1))),none,0⟩,
⟨(some 10),(.q (.mv (.t 2))),none,0⟩,
⟨(some 11),(.x (.call (.c (.fn 74 [] [])) [(.t 9),(.t 10)])),none,0⟩,
⟨(some 8),(.q (.mv (.t 11))),none,0⟩])
(.seq (.reg [⟨(some 12),(.q (.mv (.t 8))),none,0⟩,
⟨(some 13),(.q (.bin .neq (.p .int) (.t 12) (.c (.int .i64 (.ofNat 0))))),none,0⟩])
(.cond (.t 13) (.seq (.reg [⟨(some 14),(.q (.build [(.bool false),.nilsl,.nilsl] [])),none,0⟩,
⟨(some 15),(.q (.mv (.t 8))),none,0⟩,
⟨none,(.x (.st 3 (.t 6) (.t 14))),none,0⟩,
⟨(some 7),(.q (.mv (.t 15))),none,0⟩])
.ret) .skip)))
(.seq (.reg [⟨(some 16),(.q (.mv (.t 0))),none,0⟩,
⟨(some 17),(.q (.mv (.t 1))),none,0⟩,
⟨(some 18),(.q (.mv (.t 2))),none,0⟩,
⟨(some 19),(.x (.call (.c (.fn 80 [] [])) [(.t 16),(.t 17),(.t 18)])),none,0⟩,
⟨none,(.x (.st 3 (.t 6) (.t 19))),none,0⟩,
⟨(some 7),(.q (.mv (.c (.int .i64 (.ofNat 0))))),none,0⟩])
.ret)))⟩
theorem row41 : Row Go.Proofs.Tryd.prog (41, a41) := ⟨Go.Proofs.Tryd.f41, Go.Proofs.Tryd.func41, by kernel_rfl⟩
noncomputable def a50 : AFn :=
⟨12,[(.cell 2 true 3)],(.seq (.reg [⟨(some 1),(.a (.box 25 (.t 0))),none,0⟩,
⟨(some 2),(.a (.alloc 25 [(.bool false),.nilsl,.nilsl])),none,0⟩])
(.seq (.drw [⟨(some 3),(.q (.faddr 0 (.t 1))),none,0⟩,
⟨(some 4),(.q (.ld false 1 (.t 3))),none,1⟩,
⟨(some 5),(.q (.faddr 1 (.t 1))),none,0⟩,
⟨(some 6),(.q (.ld false 1 (.t 5))),none,4⟩,
⟨(some 7),(.x (.call (.c (.fn 96 [] [])) [(.t 6)])),none,12⟩,
⟨(some 8),(.q (.faddr 2 (.t 1))),none,0⟩,
⟨(some 9),(.q (.ld false 1 (.t 8))),none,32⟩,
⟨(some 10),(.x (.call (.c (.fn 96 [] [])) [(.t 9)])),none,124⟩,
⟨(some 11),(.q (.build [(.bool false),.nilsl,.nilsl] [(0,1,(.t 4)),(1,1,(.t 7)),(2,1,(.t 10))])),none,255⟩,
⟨none,(.x (.st 3 (.t 2) (.t 11))),none,511⟩])
.ret))⟩
theorem row50 : Row Go.Proofs.Tryd.prog (50, a50) := ⟨Go.Proofs.Tryd.f50, Go.Proofs.Tryd.func50, by kernel_rfl⟩
noncomputable def a51 : AFn :=
⟨11,[(.t 2)],(.seq (.reg [⟨(some 1),(.a (.box 25 (.t 0))),none,0⟩,
⟨(some 2),(.q (.mv (.c (.int .i64 (.ofNat 0))))),none,0⟩])
(.seq (.block 0 (.seq (.reg [⟨(some 4),(.q (.faddr 1 (.t 1))),none,0⟩,
⟨(some 5),(.q (.ld false 1 (.t 4))),none,0⟩,
⟨(some 6),(.q (.lenSl (.t 5))),none,0⟩,
⟨(some 7),(.q (.bin .eql (.p .int) (.t 6) (.c (.int .i64 (.ofNat 0))))),none,0⟩,
⟨(some 3),(.q (.mv (.t 7))),none,0⟩])
(.cond (.t 3) (.seq (.reg [⟨(some 2),(.q (.mv (.c (.int .i64 (.ofNat 1))))),none,0⟩])
.ret) (.seq (.reg [⟨(some 9),(.q (.faddr 0 (.t 1))),none,0⟩,
⟨(some 10),(.q (.ld false 1 (.t 9))),none,0⟩,
⟨(some 8),(.q (.mv (.t 10))),none,0⟩])
(.cond (.t 8) (.seq (.reg [⟨(some 2),(.q (.mv (.c (.int .i64 (.ofNat 0))))),none,0⟩])
.ret) .skip)))))
(.seq (.reg [⟨(some 2),(.q (.mv (.c (.int .i64 (.ofNat 2))))),none,0⟩])
.ret)))⟩
theorem row51 : Row Go.Proofs.Tryd.prog (51, a51) := ⟨Go.Proofs.Tryd.f51, Go.Proofs.Tryd.func51, by kernel_rfl⟩
end Go.Ev.Gl
