/- Functions of the program as data of the evaluator, written by program; each is shown to be the compiler's result on the loaded function. -/
import Derived.Test.YtmbmidkdinllgaaDoorProg
import Derived.Test.YtmbmidkdinllgaaDoorEv8
import Derived.KernelRfl
namespace Go.Ev.Gl
set_option maxRecDepth 100000
noncomputable def a6 : AFn :=
⟨231,[(.t 8)],(.seq (.reg [⟨(some 8),(.q (.mv (.c (.bool false)))),none,0⟩])
(.seq (.seq (.reg [⟨(some 29),(.q (.mv (.t 0))),none,0⟩,
⟨(some 30),(.q (.lenSl (.t 29))),none,0⟩,
⟨(some 31),(.q (.bin .gtr (.p .int) (.t 30) (.c (.int .i64 (.ofNat 8))))),none,0⟩,
⟨(some 32),(.q (.mv (.t 31))),none,0⟩,
⟨(some 33),(.q (.mv (.t 1))),(some (32,false)),0⟩,
⟨(some 34),(.q (.lenSl (.t 33))),(some (32,false)),0⟩,
⟨(some 35),(.q (.bin .gtr (.p .int) (.t 34) (.c (.int .i64 (.ofNat 8))))),(some (32,false)),0⟩,
⟨(some 36),(.q (.pick (.t 32) (.c (.bool true)) (.t 35))),none,0⟩,
⟨(some 37),(.q (.mv (.t 36))),none,0⟩,
⟨(some 38),(.q (.mv (.t 2))),(some (37,false)),0⟩,
⟨(some 39),(.q (.lenSl (.t 38))),(some (37,false)),0⟩,
⟨(some 40),(.q (.bin .gtr (.p .int) (.t 39) (.c (.int .i64 (.ofNat 8))))),(some (37,false)),0⟩,
⟨(some 41),(.q (.pick (.t 37) (.c (.bool true)) (.t 40))),none,0⟩])
(.cond (.t 41) (.seq (.reg [⟨(some 42),(.x (.call (.c (.fn 11 [] [])) [])),none,0⟩,
⟨(some 8),(.q (.mv (.t 42))),none,0⟩])
.ret) .skip))
(.seq (.reg [⟨(some 44),(.q (.mv (.t 0))),none,0⟩,
⟨(some 45),(.q (.mv (.t 1))),none,0⟩,
⟨(some 46),(.q (.mv (.t 3))),none,0⟩,
⟨(some 47),(.x (.call (.c (.fn 34 [] [])) [(.t 46),(.c (.int .i64 (.ofNat 2)))])),none,0⟩,
⟨(some 48),(.q (.bin .eql (.p .int) (.t 47) (.c (.int .i64 (.ofNat 1))))),none,0⟩,
⟨(some 49),(.x (.call (.c (.fn 33 [] [])) [(.t 44),(.t 45),(.t 48)])),none,0⟩,
⟨(some 43),(.q (.mv (.t 49))),none,0⟩,
⟨(some 50),(.q (.extract (.t 43) 0)),none,0⟩,
⟨(some 51),(.q (.extract (.t 43) 1)),none,0⟩,
⟨(some 9),(.a (.alloc 25 [(.bool false),.nilsl,.nilsl])),none,0⟩,
⟨none,(.x (.st 3 (.t 9) (.t 50))),none,0⟩,
⟨(some 10),(.q (.mv (.t 51))),none,0⟩])
(.seq (.reg [⟨(some 53),(.q (.mv (.t 2))),none,0⟩,
⟨(some 54),(.q (.mv (.t 1))),none,0⟩,
⟨(some 55),(.q (.mv (.t 3))),none,0⟩,
⟨(some 56),(.q (.bin .quo (.p .int) (.t 55) (.c (.int .i64 (.ofNat 2))))),none,0⟩,
⟨(some 57),(.x (.call (.c (.fn 34 [] [])) [(.t 56),(.c (.int .i64 (.ofNat 2)))])),none,0⟩,
⟨(some 58),(.q (.bin .eql (.p .int) (.t 57) (.c (.int .i64 (.ofNat 1))))),none,0⟩,
⟨(some 59),(.x (.call (.c (.fn 33 [] [])) [(.t 53),(.t 54),(.t 58)])),none,0⟩,
⟨(some 52),(.q (.mv (.t 59))),none,0⟩,
⟨(some 60),(.q (.extract (.t 52) 0)),none,0⟩,
⟨(some 61),(.q (.extract (.t 52) 1)),none,0⟩,
⟨(some 11),(.a (.alloc 25 [(.bool false),.nilsl,.nilsl])),none,0⟩,
⟨none,(.x (.st 3 (.t 11) (.t 60))),none,0⟩,
⟨(some 12),(.q (.mv (.t 61))),none,0⟩])
(.seq (.reg [⟨(some 63),(.q (.mv (.t 2))),none,0⟩,
⟨(some 64),(.q (.mv (.t 0))),none,0⟩,
⟨(some 65),(.q (.mv (.t 3))),none,0⟩,
⟨(some 66),(.q (.bin .quo (.p .int) (.t 65) (.c (.int .i64 (.ofNat 4))))),none,0⟩,
⟨(some 67),(.x (.call (.c (.fn 34 [] [])) [(.t 66),(.c (.int .i64 (.ofNat 2)))])),none,0⟩,
⟨(some 68),(.q (.bin .eql (.p .int) (.t 67) (.c (.int .i64 (.ofNat 1))))),none,0⟩,
⟨(some 69),(.x (.call (.c (.fn 33 [] [])) [(.t 63),(.t 64),(.t 68)])),none,0⟩,
⟨(some 62),(.q (.mv (.t 69))),none,0⟩,
⟨(some 70),(.q (.extract (.t 62) 0)),none,0⟩,
⟨(some 71),(.q (.extract (.t 62) 1)),none,0⟩,
⟨(some 13),(.a (.alloc 25 [(.bool false),.nilsl,.nilsl])),none,0⟩,
⟨none,(.x (.st 3 (.t 13) (.t 70))),none,0⟩,
⟨(some 14),(.q (.mv (.t 71))),none,0⟩])
(.seq (.seq (.reg [⟨(some 72),(.q (.mv (.t 10))),none,0⟩,
⟨(some 73),(.q (.un .not (.t 72))),none,0⟩,
⟨(some 74),(.q (.mv (.t 73))),none,0⟩,
⟨(some 75),(.q (.mv (.t 12))),(some (74,false)),0⟩,
⟨(some 76),(.q (.un .not (.t 75))),(some (74,false)),0⟩,
⟨(some 77),(.q (.pick (.t 74) (.c (.bool true)) (.t 76))),none,0⟩,
⟨(some 78),(.q (.mv (.t 77))),none,0⟩,
⟨(some 79),(.q (.mv (.t 14))),(some (78,false)),0⟩,
⟨(some 80),(.q (.un .not (.t 79))),(some (78,false)),0⟩,
⟨(some 81),(.q (.pick (.t 78) (.c (.bool true)) (.t 80))),none,0⟩])
(.cond (.t 81) (.seq (.reg [⟨(some 8),(.q (.mv (.c (.bool false)))),none,0⟩])
.ret) .skip))
(.seq (.reg [⟨(some 83),(.q (.ld true 3 (.t 9))),none,0⟩,
⟨(some 84),(.q (.ld true 3 (.t 11))),none,0⟩,
⟨(some 85),(.x (.call (.c (.fn 18 [] [])) [(.t 83),(.t 84)])),none,0⟩,
⟨(some 82),(.q (.mv (.t 85))),none,0⟩,
⟨(some 86),(.q (.extract (.t 82) 0)),none,0⟩,
⟨(some 87),(.q (.extract (.t 82) 1)),none,0⟩,
⟨(some 15),(.q (.mv (.t 86))),none,0⟩,
⟨(some 16),(.q (.mv (.t 87))),none,0⟩])
(.seq (.drw [⟨(some 89),(.q (.ld true 3 (.t 9))),none,0⟩,
⟨(some 90),(.q (.ld true 3 (.t 13))),none,0⟩,
⟨(some 91),(.x (.call (.c (.fn 20 [] [])) [(.t 89),(.t 90)])),none,3⟩,
⟨(some 92),(.q (.ld true 3 (.t 11))),none,0⟩,
⟨(some 93),(.q (.ld true 3 (.t 13))),none,0⟩,
⟨(some 94),(.x (.call (.c (.fn 20 [] [])) [(.t 92),(.t 93)])),none,31⟩,
⟨(some 95),(.x (.call (.c (.fn 18 [] [])) [(.t 91),(.t 94)])),none,63⟩,
⟨(some 88),(.q (.mv (.t 95))),none,127⟩,
⟨(some 96),(.q (.extract (.t 88) 0)),none,255⟩,
⟨(some 97),(.q (.extract (.t 88) 1)),none,255⟩,
⟨(some 17),(.q (.mv (.t 96))),none,511⟩,
⟨(some 18),(.q (.mv (.t 97))),none,2047⟩])
(.seq (.drw [⟨(some 99),(.q (.ld true 3 (.t 9))),none,0⟩,
⟨(some 100),(.q (.ld true 3 (.t 13))),none,0⟩,
⟨(some 101),(.x (.call (.c (.fn 35 [] [])) [(.t 99),(.t 100)])),none,3⟩,
⟨(some 102),(.q (.ld true 3 (.t 11))),none,0⟩,
⟨(some 103),(.q (.ld true 3 (.t 13))),none,0⟩,
⟨(some 104),(.x (.call (.c (.fn 35 [] [])) [(.t 102),(.t 103)])),none,31⟩,
⟨(some 105),(.x (.call (.c (.fn 18 [] [])) [(.t 101),(.t 104)])),none,63⟩,
⟨(some 98),(.q (.mv (.t 105))),none,127⟩,
⟨(some 106),(.q (.extract (.t 98) 0)),none,255⟩,
⟨(some 107),(.q (.extract (.t 98) 1)),none,255⟩,
⟨(some 19),(.q (.mv (.t 106))),none,511⟩,
⟨(some 20),(.q (.mv (.t 107))),none,2047⟩])
(.seq (.drw [⟨(some 109),(.q (.ld true 3 (.t 13))),none,0⟩,
⟨(some 110),(.x (.call (.c (.fn 19 [] [])) [(.c (.int .i64 (.ofNat 0))),(.c (.int .i64 (.ofNat 1)))])),none,0⟩,
⟨(some 111),(.x (.call (.c (.fn 18 [] [])) [(.t 109),(.t 110)])),none,3⟩,
⟨(some 108),(.q (.mv (.t 111))),none,7⟩,
⟨(some 112),(.q (.extract (.t 108) 0)),none,15⟩,
⟨(some 113),(.q (.extract (.t 108) 1)),none,15⟩,
⟨(some 21),(.q (.mv (.t 112))),none,31⟩,
⟨(some 22),(.q (.mv (.t 113))),none,127⟩])
(.seq (.seq (.reg [⟨(some 114),(.q (.mv (.t 16))),none,0⟩,
⟨(some 115),(.q (.bin .neq (.p .int) (.t 114) (.c (.int .i64 (.ofNat 0))))),none,0⟩,
⟨(some 116),(.q (.mv (.t 115))),none,0⟩,
⟨(some 117),(.q (.mv (.t 18))),(some (116,false)),0⟩,
⟨(some 118),(.q (.bin .neq (.p .int) (.t 117) (.c (.int .i64 (.ofNat 0))))),(some (116,false)),0⟩,
⟨(some 119),(.q (.pick (.t 116) (.c (.bool true)) (.t 118))),none,0⟩,
⟨(some 120),(.q (.mv (.t 119))),none,0⟩,
⟨(some 121),(.q (.mv (.t 20))),(some (120,false)),0⟩,
⟨(some 122),(.q (.bin .neq (.p .int) (.t 121) (.c (.int .i64 (.ofNat 0))))),(some (120,false)),0⟩,
⟨(some 123),(.q (.pick (.t 120) (.c (.bool true)) (.t 122))),none,0⟩,
⟨(some 124),(.q (.mv (.t 123))),none,0⟩,
⟨(some 125),(.q (.mv (.t 22))),(some (124,false)),0⟩,
⟨(some 126),(.q (.bin .neq (.p .int) (.t 125) (.c (.int .i64 (.ofNat 0))))),(some (124,false)),0⟩,
⟨(some 127),(.q (.pick (.t 124) (.c (.bool true)) (.t 126))),none,0⟩,
⟨(some 128),(.q (.mv (.t 127))),none,0⟩,
⟨(some 129),(.q (.mv (.t 15))),(some (128,false)),0⟩,
⟨(some 130),(.q (.bin .lss (.p .int) (.t 129) (.c (.int .i64 (.negSucc 0))))),(some (128,false)),0⟩,
⟨(some 131),(.q (.pick (.t 128) (.c (.bool true)) (.t 130))),none,0⟩,
⟨(some 132),(.q (.mv (.t 131))),none,0⟩,
⟨(some 133),(.q (.mv (.t 15))),(some (132,false)),0⟩,
⟨(some 134),(.q (.bin .gtr (.p .int) (.t 133) (.c (.int .i64 (.ofNat 1))))),(some (132,false)),0⟩,
⟨(some 135),(.q (.pick (.t 132) (.c (.bool true)) (.t 134))),none,0⟩,
⟨(some 136),(.q (.mv (.t 135))),none,0⟩,
⟨(some 137),(.q (.mv (.t 17))),(some (136,false)),0⟩,
⟨(some 138),(.q (.mv (.t 15))),(some (136,false)),0⟩,
⟨(some 139),(.q (.bin .neq (.p .int) (.t 137) (.t 138))),(some (136,false)),0⟩,
⟨(some 140),(.q (.pick (.t 136) (.c (.bool true)) (.t 139))),none,0⟩,
⟨(some 141),(.q (.mv (.t 140))),none,0⟩,
⟨(some 142),(.q (.mv (.t 19))),(some (141,false)),0⟩,
⟨(some 143),(.q (.mv (.t 15))),(some (141,false)),0⟩,
⟨(some 144),(.q (.mv (.t 21))),(some (141,false)),0⟩,
⟨(some 145),(.q (.bin .mul (.p .int) (.t 143) (.t 144))),(some (141,false)),0⟩,
⟨(some 146),(.q (.bin .neq (.p .int) (.t 142) (.t 145))),(some (141,false)),0⟩,
⟨(some 147),(.q (.pick (.t 141) (.c (.bool true)) (.t 146))),none,0⟩])
(.cond (.t 147) (.seq (.reg [⟨(some 8),(.q (.mv (.c (.bool false)))),none,0⟩])
.ret) .skip))
(.seq (.reg [⟨(some 149),(.q (.ld true 3 (.t 9))),none,0⟩,
⟨(some 150),(.x (.call (.c (.fn 36 [] [])) [(.t 149)])),none,0⟩,
⟨(some 148),(.q (.mv (.t 150))),none,0⟩,
⟨(some 151),(.q (.extract (.t 148) 0)),none,0⟩,
⟨(some 152),(.q (.extract (.t 148) 1)),none,0⟩,
⟨(some 23),(.a (.alloc 25 [(.bool false),.nilsl,.nilsl])),none,0⟩,
⟨none,(.x (.st 3 (.t 23) (.t 151))),none,0⟩,
⟨(some 16),(.q (.mv (.t 152))),none,0⟩])
(.seq (.reg [⟨(some 154),(.q (.ld true 3 (.t 9))),none,0⟩,
⟨(some 155),(.x (.call (.c (.fn 37 [] [])) [(.t 154)])),none,0⟩,
⟨(some 153),(.q (.mv (.t 155))),none,0⟩,
⟨(some 156),(.q (.extract (.t 153) 0)),none,0⟩,
⟨(some 157),(.q (.extract (.t 153) 1)),none,0⟩,
⟨(some 24),(.a (.alloc 25 [(.bool false),.nilsl,.nilsl])),none,0⟩,
⟨none,(.x (.st 3 (.t 24) (.t 156))),none,0⟩,
⟨(some 18),(.q (.mv (.t 157))),none,0⟩])
(.seq (.seq (.reg [⟨(some 158),(.q (.mv (.t 16))),none,0⟩,
⟨(some 159),(.q (.bin .neq (.p .int) (.t 158) (.c (.int .i64 (.ofNat 0))))),none,0⟩,
⟨(some 160),(.q (.mv (.t 159))),none,0⟩,
⟨(some 161),(.q (.mv (.t 18))),(some (160,false)),0⟩,
⟨(some 162),(.q (.bin .neq (.p .int) (.t 161) (.c (.int .i64 (.ofNat 0))))),(some (160,false)),0⟩,
⟨(some 163),(.q (.pick (.t 160) (.c (.bool true)) (.t 162))),none,0⟩,
⟨(some 164),(.q (.mv (.t 163))),none,0⟩,
⟨(some 165),(.q (.faddr 2 (.t 23))),(some (164,false)),0⟩,
⟨(some 166),(.q (.ld false 1 (.t 165))),(some (164,false)),0⟩,
⟨(some 167),(.a (.bslice 41 1 1 [(.int .u32 (.ofNat 0))] [(0,(.c (.int .u32 (.ofNat 1))))])),(some (164,false)),0⟩,
⟨(some 168),(.x (.call (.c (.fn 38 [] [])) [(.t 166),(.t 167)])),(some (164,false)),0⟩,
⟨(some 169),(.q (.un .not (.t 168))),(some (164,false)),0⟩,
⟨(some 170),(.q (.pick (.t 164) (.c (.bool true)) (.t 169))),none,0⟩,
⟨(some 171),(.q (.mv (.t 170))),none,0⟩,
⟨(some 172),(.q (.faddr 2 (.t 24))),(some (171,false)),0⟩,
⟨(some 173),(.q (.ld false 1 (.t 172))),(some (171,false)),0⟩,
⟨(some 174),(.a (.bslice 41 1 1 [(.int .u32 (.ofNat 0))] [(0,(.c (.int .u32 (.ofNat 1))))])),(some (171,false)),0⟩,
⟨(some 175),(.x (.call (.c (.fn 38 [] [])) [(.t 173),(.t 174)])),(some (171,false)),0⟩,
⟨(some 176),(.q (.un .not (.t 175))),(some (171,false)),0⟩,
⟨(some 177),(.q (.pick (.t 171) (.c (.bool true)) (.t 176))),none,0⟩])
(.cond (.t 177) (.seq (.reg [⟨(some 8),(.q (.mv (.c (.bool false)))),none,0⟩])
.ret) .skip))
(.seq (.reg [⟨(some 179),(.q (.ld true 3 (.t 23))),none,0⟩,
⟨(some 180),(.q (.ld true 3 (.t 9))),none,0⟩,
⟨(some 181),(.x (.call (.c (.fn 18 [] [])) [(.t 179),(.t 180)])),none,0⟩,
⟨(some 178),(.q (.mv (.t 181))),none,0⟩,
⟨(some 182),(.q (.extract (.t 178) 0)),none,0⟩,
⟨(some 183),(.q (.extract (.t 178) 1)),none,0⟩,
⟨(some 25),(.q (.mv (.t 182))),none,0⟩,
⟨(some 16),(.q (.mv (.t 183))),none,0⟩])
(.seq (.reg [⟨(some 185),(.q (.ld true 3 (.t 9))),none,0⟩,
⟨(some 186),(.q (.ld true 3 (.t 24))),none,0⟩,
⟨(some 187),(.x (.call (.c (.fn 18 [] [])) [(.t 185),(.t 186)])),none,0⟩,
⟨(some 184),(.q (.mv (.t 187))),none,0⟩,
⟨(some 188),(.q (.extract (.t 184) 0)),none,0⟩,
⟨(some 189),(.q (.extract (.t 184) 1)),none,0⟩,
⟨(some 26),(.q (.mv (.t 188))),none,0⟩,
⟨(some 18),(.q (.mv (.t 189))),none,0⟩])
(.seq (.drw [⟨(some 190),(.q (.ld true 3 (.t 24))),none,0⟩,
⟨(some 191),(.x (.call (.c (.fn 19 [] [])) [(.c (.int .i64 (.negSucc 0))),(.c (.int .i64 (.ofNat 1)))])),none,0⟩,
⟨(some 192),(.q (.ld true 3 (.t 23))),none,0⟩,
⟨(some 193),(.x (.call (.c (.fn 35 [] [])) [(.t 191),(.t 192)])),none,6⟩,
⟨(some 194),(.x (.call (.c (.fn 20 [] [])) [(.t 190),(.t 193)])),none,15⟩,
⟨(some 27),(.a (.alloc 25 [(.bool false),.nilsl,.nilsl])),none,0⟩,
⟨none,(.x (.st 3 (.t 27) (.t 194))),none,63⟩])
(.seq (.drw [⟨(some 195),(.q (.mv (.t 25))),none,0⟩,
⟨(some 196),(.q (.bin .eql (.p .int) (.t 195) (.c (.int .i64 (.ofNat 0))))),none,1⟩,
⟨(some 197),(.q (.mv (.t 196))),none,3⟩,
⟨(some 198),(.q (.mv (.t 26))),(some (197,true)),7⟩,
⟨(some 199),(.q (.bin .eql (.p .int) (.t 198) (.c (.int .i64 (.ofNat 0))))),(some (197,true)),15⟩,
⟨(some 200),(.q (.pick (.t 197) (.t 199) (.c (.bool false)))),none,31⟩,
⟨(some 201),(.q (.mv (.t 200))),none,63⟩,
⟨(some 202),(.q (.ld true 3 (.t 27))),(some (201,true)),127⟩,
⟨(some 203),(.x (.call (.c (.fn 19 [] [])) [(.c (.int .i64 (.ofNat 0))),(.c (.int .i64 (.ofNat 1)))])),(some (201,true)),127⟩,
⟨(some 204),(.x (.call (.c (.fn 14 [] [])) [(.t 202),(.t 203)])),(some (201,true)),511⟩,
⟨(some 205),(.q (.pick (.t 201) (.t 204) (.c (.bool false)))),none,1023⟩,
⟨(some 28),(.q (.mv (.t 205))),none,2047⟩])
(.seq (.drw [⟨(some 206),(.q (.mv (.t 16))),none,0⟩,
⟨(some 207),(.q (.bin .eql (.p .int) (.t 206) (.c (.int .i64 (.ofNat 0))))),none,1⟩,
⟨(some 208),(.q (.mv (.t 207))),none,3⟩,
⟨(some 209),(.q (.mv (.t 18))),(some (208,true)),7⟩,
⟨(some 210),(.q (.bin .eql (.p .int) (.t 209) (.c (.int .i64 (.ofNat 0))))),(some (208,true)),15⟩,
⟨(some 211),(.q (.pick (.t 208) (.t 210) (.c (.bool false)))),none,31⟩,
⟨(some 212),(.q (.mv (.t 211))),none,63⟩,
⟨(some 213),(.q (.mv (.t 28))),(some (212,true)),127⟩,
⟨(some 214),(.q (.mv (.t 213))),(some (212,true)),255⟩,
⟨(some 215),(.q (.mv (.t 25))),(some (214,false)),511⟩,
⟨(some 216),(.q (.bin .eql (.p .int) (.t 215) (.c (.int .i64 (.negSucc 0))))),(some (214,false)),1023⟩,
⟨(some 217),(.q (.mv (.t 216))),(some (214,false)),2047⟩,
⟨(some 218),(.q (.mv (.t 26))),(some (217,true)),4095⟩,
⟨(some 219),(.q (.bin .eql (.p .int) (.t 218) (.c (.int .i64 (.negSucc 0))))),(some (217,true)),8191⟩,
⟨(some 220),(.q (.pick (.t 217) (.t 219) (.c (.bool false)))),(some (214,false)),16383⟩,
⟨(some 221),(.q (.mv (.t 220))),(some (214,false)),32767⟩,
⟨(some 222),(.q (.ld true 3 (.t 27))),(some (221,true)),65535⟩,
⟨(some 223),(.x (.call (.c (.fn 19 [] [])) [(.c (.int .i64 (.ofNat 1))),(.c (.int .i64 (.ofNat 1)))])),(some (221,true)),65535⟩,
⟨(some 224),(.x (.call (.c (.fn 14 [] [])) [(.t 222),(.t 223)])),(some (221,true)),262143⟩,
⟨(some 225),(.q (.pick (.t 221) (.t 224) (.c (.bool false)))),(some (214,false)),524287⟩,
⟨(some 226),(.q (.pick (.t 214) (.c (.bool true)) (.t 225))),(some (212,true)),1048575⟩,
⟨(some 227),(.q (.pick (.t 212) (.t 226) (.c (.bool false)))),none,2097151⟩,
⟨(some 228),(.q (.mv (.t 227))),none,4194303⟩,
⟨(some 229),(.x (.call (.c (.fn 11 [] [])) [])),(some (228,true)),8388607⟩,
⟨(some 230),(.q (.pick (.t 228) (.t 229) (.c (.bool false)))),none,16777215⟩,
⟨(some 8),(.q (.mv (.t 230))),none,33554431⟩])
.ret)))))))))))))))))))⟩
theorem row6 : Row Go.Proofs.Tryd.prog (6, a6) := ⟨Go.Proofs.Tryd.f6, Go.Proofs.Tryd.func6, by kernel_rfl⟩
noncomputable def a14 : AFn :=
⟨24,[(.t 4)],(.seq (.reg [⟨(some 2),(.a (.box 25 (.t 0))),none,0⟩,
⟨(some 3),(.a (.box 25 (.t 1))),none,0⟩,
⟨(some 4),(.q (.mv (.c (.bool false)))),none,0⟩])
(.seq (.reg [⟨(some 5),(.q (.faddr 0 (.t 2))),none,0⟩,
⟨(some 6),(.q (.ld false 1 (.t 5))),none,0⟩,
⟨(some 7),(.q (.faddr 0 (.t 3))),none,0⟩,
⟨(some 8),(.q (.ld false 1 (.t 7))),none,0⟩,
⟨(some 9),(.q (.bin .eql (.p .bool) (.t 6) (.t 8))),none,0⟩,
⟨(some 10),(.q (.mv (.t 9))),none,0⟩,
⟨(some 11),(.q (.faddr 1 (.t 2))),(some (10,true)),0⟩,
⟨(some 12),(.q (.ld false 1 (.t 11))),(some (10,true)),0⟩,
⟨(some 13),(.q (.faddr 1 (.t 3))),(some (10,true)),0⟩,
⟨(some 14),(.q (.ld false 1 (.t 13))),(some (10,true)),0⟩,
⟨(some 15),(.x (.call (.c (.fn 38 [] [])) [(.t 12),(.t 14)])),(some (10,true)),0⟩,
⟨(some 16),(.q (.pick (.t 10) (.t 15) (.c (.bool false)))),none,0⟩,
⟨(some 17),(.q (.mv (.t 16))),none,0⟩,
⟨(some 18),(.q (.faddr 2 (.t 2))),(some (17,true)),0⟩,
⟨(some 19),(.q (.ld false 1 (.t 18))),(some (17,true)),0⟩,
⟨(some 20),(.q (.faddr 2 (.t 3))),(some (17,true)),0⟩,
⟨(some 21),(.q (.ld false 1 (.t 20))),(some (17,true)),0⟩,
⟨(some 22),(.x (.call (.c (.fn 38 [] [])) [(.t 19),(.t 21)])),(some (17,true)),0⟩,
⟨(some 23),(.q (.pick (.t 17) (.t 22) (.c (.bool false)))),none,0⟩,
⟨(some 4),(.q (.mv (.t 23))),none,0⟩])
.ret))⟩
theorem row14 : Row Go.Proofs.Tryd.prog (14, a14) := ⟨Go.Proofs.Tryd.f14, Go.Proofs.Tryd.func14, by kernel_rfl⟩
noncomputable def a16 : AFn :=
⟨31,[(.cell 4 true 3)],(.seq (.reg [⟨(some 4),(.a (.alloc 25 [(.bool false),.nilsl,.nilsl])),none,0⟩])
(.seq (.reg [⟨(some 6),(.q (.mv (.t 0))),none,0⟩,
⟨(some 7),(.q (.mv (.t 0))),none,0⟩,
⟨(some 8),(.q (.un .neg (.t 7))),none,0⟩,
⟨(some 9),(.q (.minmax true [(.t 6),(.t 8)])),none,0⟩,
⟨(some 10),(.q (.mv (.t 1))),none,0⟩,
⟨(some 11),(.x (.call (.c (.fn 60 [] [])) [(.t 9),(.t 10)])),none,0⟩,
⟨(some 5),(.q (.mv (.t 11))),none,0⟩])
(.seq (.drw [⟨(some 12),(.q (.mv (.t 0))),none,0⟩,
⟨(some 13),(.q (.mv (.t 5))),none,0⟩,
⟨(some 14),(.q (.bin .quo (.p .int) (.t 12) (.t 13))),none,3⟩,
⟨(some 15),(.q (.mv (.t 1))),none,0⟩,
⟨(some 16),(.q (.mv (.t 5))),none,0⟩,
⟨(some 17),(.q (.bin .quo (.p .int) (.t 15) (.t 16))),none,24⟩,
⟨(some 0),(.q (.mv (.t 14))),none,7⟩,
⟨(some 1),(.q (.mv (.t 17))),none,127⟩])
(.seq (.seq (.reg [⟨(some 18),(.q (.mv (.t 0))),none,0⟩,
⟨(some 19),(.q (.bin .lss (.p .int) (.t 18) (.c (.int .i64 (.ofNat 0))))),none,0⟩])
(.cond (.t 19) (.seq (.reg [⟨(some 20),(.q (.mv (.t 0))),none,0⟩,
⟨(some 21),(.q (.un .neg (.t 20))),none,0⟩,
⟨(some 22),(.x (.call (.c (.fn 61 [] [])) [(.t 21)])),none,0⟩,
⟨(some 23),(.q (.mv (.t 1))),none,0⟩,
⟨(some 24),(.x (.call (.c (.fn 61 [] [])) [(.t 23)])),none,0⟩,
⟨(some 25),(.q (.build [(.bool false),.nilsl,.nilsl] [(0,1,(.c (.bool true))),(1,1,(.t 22)),(2,1,(.t 24))])),none,0⟩,
⟨none,(.x (.st 3 (.t 4) (.t 25))),none,0⟩])
.ret) .skip))
(.seq (.reg [⟨(some 26),(.q (.mv (.t 0))),none,0⟩,
⟨(some 27),(.x (.call (.c (.fn 61 [] [])) [(.t 26)])),none,0⟩,
⟨(some 28),(.q (.mv (.t 1))),none,0⟩,
⟨(some 29),(.x (.call (.c (.fn 61 [] [])) [(.t 28)])),none,0⟩,
⟨(some 30),(.q (.build [(.bool false),.nilsl,.nilsl] [(1,1,(.t 27)),(2,1,(.t 29))])),none,0⟩,
⟨none,(.x (.st 3 (.t 4) (.t 30))),none,0⟩])
.ret)))))⟩
theorem row16 : Row Go.Proofs.Tryd.prog (16, a16) := ⟨Go.Proofs.Tryd.f16, Go.Proofs.Tryd.func16, by kernel_rfl⟩
noncomputable def a18 : AFn :=
⟨46,[(.t 4),(.t 5)],(.seq (.reg [⟨(some 2),(.a (.box 25 (.t 0))),none,0⟩,
⟨(some 3),(.a (.box 25 (.t 1))),none,0⟩,
⟨(some 4),(.q (.mv (.c (.int .i64 (.ofNat 0))))),none,0⟩,
⟨(some 5),(.q (.mv (.c (.int .i64 (.ofNat 0))))),none,0⟩])
(.seq (.seq (.reg [⟨(some 9),(.q (.ld true 3 (.t 2))),none,0⟩,
⟨(some 10),(.q (.ld true 3 (.t 3))),none,0⟩,
⟨(some 11),(.x (.call (.c (.fn 62 [] [])) [(.t 9),(.t 10)])),none,0⟩,
⟨(some 6),(.q (.mv (.t 11))),none,0⟩])
(.seq (.reg [⟨(some 12),(.q (.mv (.t 6))),none,0⟩,
⟨(some 13),(.q (.bin .neq (.p .int) (.t 12) (.c (.int .i64 (.ofNat 0))))),none,0⟩])
(.cond (.t 13) (.seq (.reg [⟨(some 14),(.q (.mv (.t 6))),none,0⟩,
⟨(some 4),(.q (.mv (.c (.int .i64 (.ofNat 0))))),none,0⟩,
⟨(some 5),(.q (.mv (.t 14))),none,0⟩])
.ret) .skip)))
(.seq (.drw [⟨(some 15),(.q (.ld true 3 (.t 2))),none,0⟩,
⟨(some 16),(.x (.call (.c (.fn 51 [] [])) [(.t 15)])),none,1⟩,
⟨(some 17),(.q (.ld true 3 (.t 3))),none,0⟩,
⟨(some 18),(.x (.call (.c (.fn 51 [] [])) [(.t 17)])),none,7⟩,
⟨(some 7),(.q (.mv (.t 16))),none,15⟩,
⟨(some 8),(.q (.mv (.t 18))),none,31⟩])
(.seq (.block 0 (.seq (.reg [⟨(some 20),(.q (.mv (.t 7))),none,0⟩,
⟨(some 21),(.q (.mv (.t 8))),none,0⟩,
⟨(some 22),(.q (.bin .lss (.p .int) (.t 20) (.t 21))),none,0⟩,
⟨(some 19),(.q (.mv (.t 22))),none,0⟩])
(.cond (.t 19) (.seq (.reg [⟨(some 23),(.q (.iaddr (.arr 3 1) (.c (.ptr 0 0)) (.c (.int .i64 (.ofNat 0))))),none,0⟩,
⟨(some 24),(.q (.ld false 1 (.t 23))),none,0⟩,
⟨(some 4),(.q (.mv (.t 24))),none,0⟩,
⟨(some 5),(.q (.mv (.c (.int .i64 (.ofNat 0))))),none,0⟩])
.ret) (.seq (.reg [⟨(some 26),(.q (.mv (.t 7))),none,0⟩,
⟨(some 27),(.q (.mv (.t 8))),none,0⟩,
⟨(some 28),(.q (.bin .gtr (.p .int) (.t 26) (.t 27))),none,0⟩,
⟨(some 25),(.q (.mv (.t 28))),none,0⟩])
(.cond (.t 25) (.seq (.reg [⟨(some 29),(.q (.iaddr (.arr 3 1) (.c (.ptr 0 0)) (.c (.int .i64 (.ofNat 2))))),none,0⟩,
⟨(some 30),(.q (.ld false 1 (.t 29))),none,0⟩,
⟨(some 4),(.q (.mv (.t 30))),none,0⟩,
⟨(some 5),(.q (.mv (.c (.int .i64 (.ofNat 0))))),none,0⟩])
.ret) .skip)))))
(.seq (.drw [⟨(some 31),(.q (.mv (.t 7))),none,0⟩,
⟨(some 32),(.q (.iaddr (.arr 3 1) (.c (.ptr 0 0)) (.t 31))),none,1⟩,
⟨(some 33),(.q (.ld false 1 (.t 32))),none,3⟩,
⟨(some 34),(.q (.faddr 1 (.t 2))),none,0⟩,
⟨(some 35),(.q (.ld false 1 (.t 34))),none,8⟩,
⟨(some 36),(.q (.faddr 2 (.t 3))),none,0⟩,
⟨(some 37),(.q (.ld false 1 (.t 36))),none,32⟩,
⟨(some 38),(.x (.call (.c (.fn 64 [] [])) [(.t 35),(.t 37)])),none,120⟩,
⟨(some 39),(.q (.faddr 1 (.t 3))),none,0⟩,
⟨(some 40),(.q (.ld false 1 (.t 39))),none,256⟩,
⟨(some 41),(.q (.faddr 2 (.t 2))),none,0⟩,
⟨(some 42),(.q (.ld false 1 (.t 41))),none,1024⟩,
⟨(some 43),(.x (.call (.c (.fn 64 [] [])) [(.t 40),(.t 42)])),none,4088⟩,
⟨(some 44),(.x (.call (.c (.fn 63 [] [])) [(.t 38),(.t 43)])),none,8184⟩,
⟨(some 45),(.q (.bin .mul (.p .int) (.t 33) (.t 44))),none,16383⟩,
⟨(some 4),(.q (.mv (.t 45))),none,32767⟩,
⟨(some 5),(.q (.mv (.c (.int .i64 (.ofNat 0))))),none,65535⟩])
.ret)))))⟩
theorem row18 : Row Go.Proofs.Tryd.prog (18, a18) := ⟨Go.Proofs.Tryd.f18, Go.Proofs.Tryd.func18, by kernel_rfl⟩
noncomputable def a19 : AFn :=
⟨8,[(.cell 4 true 3)],(.seq (.reg [⟨(some 4),(.a (.alloc 25 [(.bool false),.nilsl,.nilsl])),none,0⟩])
(.seq (.reg [⟨(some 5),(.q (.mv (.t 0))),none,0⟩,
⟨(some 6),(.q (.mv (.t 1))),none,0⟩,
⟨(some 7),(.x (.call (.c (.fn 16 [] [])) [(.t 5),(.t 6)])),none,0⟩,
⟨none,(.x (.st 3 (.t 4) (.t 7))),none,0⟩])
.ret))⟩
theorem row19 : Row Go.Proofs.Tryd.prog (19, a19) := ⟨Go.Proofs.Tryd.f19, Go.Proofs.Tryd.func19, by kernel_rfl⟩
noncomputable def a20 : AFn :=
⟨14,[(.cell 4 true 3)],(.seq (.reg [⟨(some 2),(.a (.box 25 (.t 0))),none,0⟩,
⟨(some 3),(.a (.box 25 (.t 1))),none,0⟩,
⟨(some 4),(.a (.alloc 25 [(.bool false),.nilsl,.nilsl])),none,0⟩])
(.seq (.reg [⟨(some 8),(.q (.ld true 3 (.t 2))),none,0⟩,
⟨(some 9),(.q (.ld true 3 (.t 3))),none,0⟩,
⟨(some 10),(.x (.call (.c (.fn 22 [] [])) [(.t 8),(.t 9)])),none,0⟩,
⟨(some 7),(.q (.mv (.t 10))),none,0⟩,
⟨(some 11),(.q (.extract (.t 7) 0)),none,0⟩,
⟨(some 12),(.q (.extract (.t 7) 1)),none,0⟩,
⟨(some 5),(.a (.alloc 25 [(.bool false),.nilsl,.nilsl])),none,0⟩,
⟨none,(.x (.st 3 (.t 5) (.t 11))),none,0⟩,
⟨(some 6),(.q (.mv (.t 12))),none,0⟩])
(.seq (.reg [⟨(some 13),(.q (.ld true 3 (.t 5))),none,0⟩,
⟨none,(.x (.st 3 (.t 4) (.t 13))),none,0⟩])
.ret)))⟩
theorem row20 : Row Go.Proofs.Tryd.prog (20, a20) := ⟨Go.Proofs.Tryd.f20, Go.Proofs.Tryd.func20, by kernel_rfl⟩
noncomputable def a22 : AFn :=
⟨27,[(.cell 4 true 3),(.t 5)],(.seq (.reg [⟨(some 2),(.a (.box 25 (.t 0))),none,0⟩,
⟨(some 3),(.a (.box 25 (.t 1))),none,0⟩,
⟨(some 4),(.a (.alloc 25 [(.bool false),.nilsl,.nilsl])),none,0⟩,
⟨(some 5),(.q (.mv (.c (.int .i64 (.ofNat 0))))),none,0⟩])
(.seq (.seq (.reg [⟨(some 8),(.q (.ld true 3 (.t 2))),none,0⟩,
⟨(some 9),(.q (.ld true 3 (.t 3))),none,0⟩,
⟨(some 10),(.x (.call (.c (.fn 62 [] [])) [(.t 8),(.t 9)])),none,0⟩,
⟨(some 6),(.q (.mv (.t 10))),none,0⟩])
(.seq (.reg [⟨(some 11),(.q (.mv (.t 6))),none,0⟩,
⟨(some 12),(.q (.bin .neq (.p .int) (.t 11) (.c (.int .i64 (.ofNat 0))))),none,0⟩])
(.cond (.t 12) (.seq (.reg [⟨(some 13),(.q (.build [(.bool false),.nilsl,.nilsl] [])),none,0⟩,
⟨(some 14),(.q (.mv (.t 6))),none,0⟩,
⟨none,(.x (.st 3 (.t 4) (.t 13))),none,0⟩,
⟨(some 5),(.q (.mv (.t 14))),none,0⟩])
.ret) .skip)))
(.seq (.reg [⟨(some 15),(.x (.call (.c (.fn 66 [] [])) [])),none,0⟩,
⟨(some 16),(.x (.call (.c (.fn 65 [] [])) [(.c (.bool false)),(.t 15)])),none,0⟩,
⟨(some 7),(.a (.alloc 25 [(.bool false),.nilsl,.nilsl])),none,0⟩,
⟨none,(.x (.st 3 (.t 7) (.t 16))),none,0⟩])
(.seq (.reg [⟨(some 17),(.q (.ld true 3 (.t 2))),none,0⟩,
⟨(some 18),(.q (.ld true 3 (.t 7))),none,0⟩,
⟨(some 19),(.q (.build [(.bool false),.nilsl,.nilsl,(.bool false),.nilsl,.nilsl] [(0,3,(.t 17)),(3,3,(.t 18))])),none,0⟩,
⟨(some 20),(.q (.ld true 3 (.t 3))),none,0⟩,
⟨(some 21),(.q (.ld true 3 (.t 7))),none,0⟩,
⟨(some 22),(.q (.build [(.bool false),.nilsl,.nilsl,(.bool false),.nilsl,.nilsl] [(0,3,(.t 20)),(3,3,(.t 21))])),none,0⟩,
⟨(some 23),(.a (.bslice 80 6 2 [(.bool false),.nilsl,.nilsl,(.bool false),.nilsl,.nilsl] [(0,(.t 19)),(1,(.t 22))])),none,0⟩,
⟨(some 24),(.x (.call (.c (.fn 67 [] [])) [(.t 23)])),none,0⟩,
⟨(some 25),(.q (.extract (.t 24) 0)),none,0⟩,
⟨(some 26),(.q (.extract (.t 24) 1)),none,0⟩,
⟨none,(.x (.st 3 (.t 4) (.t 25))),none,0⟩,
⟨(some 5),(.q (.mv (.t 26))),none,0⟩])
.ret))))⟩
theorem row22 : Row Go.Proofs.Tryd.prog (22, a22) := ⟨Go.Proofs.Tryd.f22, Go.Proofs.Tryd.func22, by kernel_rfl⟩
noncomputable def a24 : AFn :=
⟨28,[(.cell 4 true 3),(.t 5)],(.seq (.reg [⟨(some 2),(.a (.box 25 (.t 0))),none,0⟩,
⟨(some 3),(.a (.box 25 (.t 1))),none,0⟩,
⟨(some 4),(.a (.alloc 25 [(.bool false),.nilsl,.nilsl])),none,0⟩,
⟨(some 5),(.q (.mv (.c (.int .i64 (.ofNat 0))))),none,0⟩])
(.seq (.seq (.reg [⟨(some 8),(.q (.ld true 3 (.t 2))),none,0⟩,
⟨(some 9),(.q (.ld true 3 (.t 3))),none,0⟩,
⟨(some 10),(.x (.call (.c (.fn 62 [] [])) [(.t 8),(.t 9)])),none,0⟩,
⟨(some 6),(.q (.mv (.t 10))),none,0⟩])
(.seq (.reg [⟨(some 11),(.q (.mv (.t 6))),none,0⟩,
⟨(some 12),(.q (.bin .neq (.p .int) (.t 11) (.c (.int .i64 (.ofNat 0))))),none,0⟩])
(.cond (.t 12) (.seq (.reg [⟨(some 13),(.q (.build [(.bool false),.nilsl,.nilsl] [])),none,0⟩,
⟨(some 14),(.q (.mv (.t 6))),none,0⟩,
⟨none,(.x (.st 3 (.t 4) (.t 13))),none,0⟩,
⟨(some 5),(.q (.mv (.t 14))),none,0⟩])
.ret) .skip)))
(.seq (.reg [⟨(some 15),(.x (.call (.c (.fn 66 [] [])) [])),none,0⟩,
⟨(some 16),(.x (.call (.c (.fn 65 [] [])) [(.c (.bool false)),(.t 15)])),none,0⟩,
⟨(some 7),(.a (.alloc 25 [(.bool false),.nilsl,.nilsl])),none,0⟩,
⟨none,(.x (.st 3 (.t 7) (.t 16))),none,0⟩])
(.seq (.drw [⟨(some 17),(.q (.ld true 3 (.t 2))),none,0⟩,
⟨(some 18),(.q (.ld true 3 (.t 7))),none,0⟩,
⟨(some 19),(.q (.build [(.bool false),.nilsl,.nilsl,(.bool false),.nilsl,.nilsl] [(0,3,(.t 17)),(3,3,(.t 18))])),none,3⟩,
⟨(some 20),(.q (.ld true 3 (.t 3))),none,0⟩,
⟨(some 21),(.x (.call (.c (.fn 54 [] [])) [(.t 20)])),none,8⟩,
⟨(some 22),(.q (.ld true 3 (.t 7))),none,0⟩,
⟨(some 23),(.q (.build [(.bool false),.nilsl,.nilsl,(.bool false),.nilsl,.nilsl] [(0,3,(.t 21)),(3,3,(.t 22))])),none,56⟩,
⟨(some 24),(.a (.bslice 80 6 2 [(.bool false),.nilsl,.nilsl,(.bool false),.nilsl,.nilsl] [(0,(.t 19)),(1,(.t 23))])),none,127⟩,
⟨(some 25),(.x (.call (.c (.fn 67 [] [])) [(.t 24)])),none,255⟩,
⟨(some 26),(.q (.extract (.t 25) 0)),none,511⟩,
⟨(some 27),(.q (.extract (.t 25) 1)),none,511⟩,
⟨none,(.x (.st 3 (.t 4) (.t 26))),none,2047⟩,
⟨(some 5),(.q (.mv (.t 27))),none,4095⟩])
.ret))))⟩
theorem row24 : Row Go.Proofs.Tryd.prog (24, a24) := ⟨Go.Proofs.Tryd.f24, Go.Proofs.Tryd.func24, by kernel_rfl⟩
noncomputable def a26 : AFn :=
⟨21,[(.cell 4 true 3),(.t 5)],(.seq (.reg [⟨(some 2),(.a (.box 25 (.t 0))),none,0⟩,
⟨(some 3),(.a (.box 25 (.t 1))),none,0⟩,
⟨(some 4),(.a (.alloc 25 [(.bool false),.nilsl,.nilsl])),none,0⟩,
⟨(some 5),(.q (.mv (.c (.int .i64 (.ofNat 0))))),none,0⟩])
(.seq (.seq (.reg [⟨(some 7),(.q (.ld true 3 (.t 2))),none,0⟩,
⟨(some 8),(.q (.ld true 3 (.t 3))),none,0⟩,
⟨(some 9),(.x (.call (.c (.fn 62 [] [])) [(.t 7),(.t 8)])),none,0⟩,
⟨(some 6),(.q (.mv (.t 9))),none,0⟩])
(.seq (.reg [⟨(some 10),(.q (.mv (.t 6))),none,0⟩,
⟨(some 11),(.q (.bin .neq (.p .int) (.t 10) (.c (.int .i64 (.ofNat 0))))),none,0⟩])
(.cond (.t 11) (.seq (.reg [⟨(some 12),(.q (.build [(.bool false),.nilsl,.nilsl] [])),none,0⟩,
⟨(some 13),(.q (.mv (.t 6))),none,0⟩,
⟨none,(.x (.st 3 (.t 4) (.t 12))),none,0⟩,
⟨(some 5),(.q (.mv (.t 13))),none,0⟩])
.ret) .skip)))
(.seq (.reg [⟨(some 14),(.q (.ld true 3 (.t 2))),none,0⟩,
⟨(some 15),(.q (.ld true 3 (.t 3))),none,0⟩,
⟨(some 16),(.q (.build [(.bool false),.nilsl,.nilsl,(.bool false),.nilsl,.nilsl] [(0,3,(.t 14)),(3,3,(.t 15))])),none,0⟩,
⟨(some 17),(.a (.bslice 80 6 1 [(.bool false),.nilsl,.nilsl,(.bool false),.nilsl,.nilsl] [(0,(.t 16))])),none,0⟩,
⟨(some 18),(.x (.call (.c (.fn 67 [] [])) [(.t 17)])),none,0⟩,
⟨(some 19),(.q (.extract (.t 18) 0)),none,0⟩,
⟨(some 20),(.q (.extract (.t 18) 1)),none,0⟩,
⟨none,(.x (.st 3 (.t 4) (.t 19))),none,0⟩,
⟨(some 5),(.q (.mv (.t 20))),none,0⟩])
.ret)))⟩
theorem row26 : Row Go.Proofs.Tryd.prog (26, a26) := ⟨Go.Proofs.Tryd.f26, Go.Proofs.Tryd.func26, by kernel_rfl⟩
noncomputable def a28 : AFn :=
⟨26,[(.cell 4 true 3),(.t 5)],(.seq (.reg [⟨(some 2),(.a (.box 25 (.t 0))),none,0⟩,
⟨(some 3),(.a (.box 25 (.t 1))),none,0⟩,
⟨(some 4),(.a (.alloc 25 [(.bool false),.nilsl,.nilsl])),none,0⟩,
⟨(some 5),(.q (.mv (.c (.int .i64 (.ofNat 0))))),none,0⟩])
(.seq (.seq (.reg [⟨(some 7),(.q (.ld true 3 (.t 2))),none,0⟩,
⟨(some 8),(.q (.ld true 3 (.t 3))),none,0⟩,
⟨(some 9),(.x (.call (.c (.fn 62 [] [])) [(.t 7),(.t 8)])),none,0⟩,
⟨(some 6),(.q (.mv (.t 9))),none,0⟩])
(.seq (.reg [⟨(some 10),(.q (.mv (.t 6))),none,0⟩,
⟨(some 11),(.q (.bin .neq (.p .int) (.t 10) (.c (.int .i64 (.ofNat 0))))),none,0⟩])
(.cond (.t 11) (.seq (.reg [⟨(some 12),(.q (.build [(.bool false),.nilsl,.nilsl] [])),none,0⟩,
⟨(some 13),(.q (.mv (.t 6))),none,0⟩,
⟨none,(.x (.st 3 (.t 4) (.t 12))),none,0⟩,
⟨(some 5),(.q (.mv (.t 13))),none,0⟩])
.ret) .skip)))
(.seq (.seq (.reg [⟨(some 14),(.q (.ld true 3 (.t 3))),none,0⟩,
⟨(some 15),(.x (.call (.c (.fn 51 [] [])) [(.t 14)])),none,0⟩,
⟨(some 16),(.q (.bin .eql (.p .int) (.t 15) (.c (.int .i64 (.ofNat 1))))),none,0⟩])
(.cond (.t 16) (.seq (.reg [⟨(some 17),(.q (.build [(.bool false),.nilsl,.nilsl] [])),none,0⟩,
⟨none,(.x (.st 3 (.t 4) (.t 17))),none,0⟩,
⟨(some 5),(.q (.mv (.c (.int .i64 (.ofNat 6))))),none,0⟩])
.ret) .skip))
(.seq (.drw [⟨(some 18),(.q (.ld true 3 (.t 2))),none,0⟩,
⟨(some 19),(.q (.ld true 3 (.t 3))),none,0⟩,
⟨(some 20),(.x (.call (.c (.fn 71 [] [])) [(.t 19)])),none,2⟩,
⟨(some 21),(.q (.build [(.bool false),.nilsl,.nilsl,(.bool false),.nilsl,.nilsl] [(0,3,(.t 18)),(3,3,(.t 20))])),none,7⟩,
⟨(some 22),(.a (.bslice 80 6 1 [(.bool false),.nilsl,.nilsl,(.bool false),.nilsl,.nilsl] [(0,(.t 21))])),none,15⟩,
⟨(some 23),(.x (.call (.c (.fn 67 [] [])) [(.t 22)])),none,31⟩,
⟨(some 24),(.q (.extract (.t 23) 0)),none,63⟩,
⟨(some 25),(.q (.extract (.t 23) 1)),none,63⟩,
⟨none,(.x (.st 3 (.t 4) (.t 24))),none,255⟩,
⟨(some 5),(.q (.mv (.t 25))),none,511⟩])
.ret))))⟩
theorem row28 : Row Go.Proofs.Tryd.prog (28, a28) := ⟨Go.Proofs.Tryd.f28, Go.Proofs.Tryd.func28, by kernel_rfl⟩
noncomputable def a31 : AFn :=
⟨28,[(.t 2)],(.seq (.reg [⟨(some 1),(.a (.box 25 (.t 0))),none,0⟩,
⟨(some 2),(.q (.mv (.c (.int .i64 (.ofNat 0))))),none,0⟩])
(.seq (.seq (.reg [⟨(some 4),(.q (.faddr 1 (.t 1))),none,0⟩,
⟨(some 5),(.q (.ld false 1 (.t 4))),none,0⟩,
⟨(some 6),(.q (.faddr 2 (.t 1))),none,0⟩,
⟨(some 7),(.q (.ld false 1 (.t 6))),none,0⟩,
⟨(some 8),(.x (.call (.c (.fn 74 [] [])) [(.t 5),(.t 7)])),none,0⟩,
⟨(some 3),(.q (.mv (.t 8))),none,0⟩])
(.seq (.reg [⟨(some 9),(.q (.mv (.t 3))),none,0⟩,
⟨(some 10),(.q (.bin .neq (.p .int) (.t 9) (.c (.int .i64 (.ofNat 0))))),none,0⟩])
(.cond (.t 10) (.seq (.reg [⟨(some 11),(.q (.mv (.t 3))),none,0⟩,
⟨(some 2),(.q (.mv (.t 11))),none,0⟩])
.ret) .skip)))
(.seq (.seq (.reg [⟨(some 12),(.q (.faddr 1 (.t 1))),none,0⟩,
⟨(some 13),(.q (.ld false 1 (.t 12))),none,0⟩,
⟨(some 14),(.q (.lenSl (.t 13))),none,0⟩,
⟨(some 15),(.q (.bin .eql (.p .int) (.t 14) (.c (.int .i64 (.ofNat 0))))),none,0⟩,
⟨(some 16),(.q (.mv (.t 15))),none,0⟩,
⟨(some 17),(.q (.faddr 0 (.t 1))),(some (16,true)),0⟩,
⟨(some 18),(.q (.ld false 1 (.t 17))),(some (16,true)),0⟩,
⟨(some 19),(.q (.pick (.t 16) (.t 18) (.c (.bool false)))),none,0⟩,
⟨(some 20),(.q (.mv (.t 19))),none,0⟩,
⟨(some 21),(.q (.faddr 1 (.t 1))),(some (20,false)),0⟩,
⟨(some 22),(.q (.ld false 1 (.t 21))),(some (20,false)),0⟩,
⟨(some 23),(.q (.faddr 2 (.t 1))),(some (20,false)),0⟩,
⟨(some 24),(.q (.ld false 1 (.t 23))),(some (20,false)),0⟩,
⟨(some 25),(.x (.call (.c (.fn 75 [] [])) [(.t 22),(.t 24)])),(some (20,false)),0⟩,
⟨(some 26),(.q (.un .not (.t 25))),(some (20,false)),0⟩,
⟨(some 27),(.q (.pick (.t 20) (.c (.bool true)) (.t 26))),none,0⟩])
(.cond (.t 27) (.seq (.reg [⟨(some 2),(.q (.mv (.c (.int .i64 (.ofNat 3))))),none,0⟩])
.ret) .skip))
(.seq (.reg [⟨(some 2),(.q (.mv (.c (.int .i64 (.ofNat 0))))),none,0⟩])
.ret))))⟩
theorem row31 : Row Go.Proofs.Tryd.prog (31, a31) := ⟨Go.Proofs.Tryd.f31, Go.Proofs.Tryd.func31, by kernel_rfl⟩
noncomputable def a33 : AFn :=
⟨33,[(.cell 6 true 3),(.t 7)],(.seq (.reg [⟨(some 6),(.a (.alloc 25 [(.bool false),.nilsl,.nilsl])),none,0⟩,
⟨(some 7),(.q (.mv (.c (.bool false)))),none,0⟩])
(.seq (.reg [⟨(some 11),(.q (.mv (.t 1))),none,0⟩,
⟨(some 12),(.x (.call (.c (.fn 78 [] [])) [(.t 11)])),none,0⟩,
⟨(some 8),(.q (.mv (.t 12))),none,0⟩])
(.seq (.seq (.reg [⟨(some 13),(.q (.mv (.t 8))),none,0⟩,
⟨(some 14),(.q (.lenSl (.t 13))),none,0⟩,
⟨(some 15),(.q (.bin .eql (.p .int) (.t 14) (.c (.int .i64 (.ofNat 0))))),none,0⟩])
(.cond (.t 15) (.reg [⟨(some 16),(.a (.bslice 41 1 1 [(.int .u32 (.ofNat 0))] [(0,(.c (.int .u32 (.ofNat 1))))])),none,0⟩,
⟨(some 8),(.q (.mv (.t 16))),none,0⟩]) .skip))
(.seq (.reg [⟨(some 18),(.q (.mv (.t 2))),none,0⟩,
⟨(some 19),(.q (.mv (.t 0))),none,0⟩,
⟨(some 20),(.x (.call (.c (.fn 78 [] [])) [(.t 19)])),none,0⟩,
⟨(some 21),(.q (.mv (.t 8))),none,0⟩,
⟨(some 22),(.x (.call (.c (.fn 41 [] [])) [(.t 18),(.t 20),(.t 21)])),none,0⟩,
⟨(some 17),(.q (.mv (.t 22))),none,0⟩,
⟨(some 23),(.q (.extract (.t 17) 0)),none,0⟩,
⟨(some 24),(.q (.extract (.t 17) 1)),none,0⟩,
⟨(some 9),(.a (.alloc 25 [(.bool false),.nilsl,.nilsl])),none,0⟩,
⟨none,(.x (.st 3 (.t 9) (.t 23))),none,0⟩,
⟨(some 10),(.q (.mv (.t 24))),none,0⟩])
(.seq (.drw [⟨(some 25),(.q (.ld true 3 (.t 9))),none,0⟩,
⟨(some 26),(.q (.mv (.t 10))),none,0⟩,
⟨(some 27),(.q (.bin .eql (.p .int) (.t 26) (.c (.int .i64 (.ofNat 0))))),none,2⟩,
⟨(some 28),(.q (.mv (.t 27))),none,6⟩,
⟨(some 29),(.q (.ld true 3 (.t 9))),(some (28,true)),14⟩,
⟨(some 30),(.x (.call (.c (.fn 31 [] [])) [(.t 29)])),(some (28,true)),30⟩,
⟨(some 31),(.q (.bin .eql (.p .int) (.t 30) (.c (.int .i64 (.ofNat 0))))),(some (28,true)),62⟩,
⟨(some 32),(.q (.pick (.t 28) (.t 31) (.c (.bool false)))),none,126⟩,
⟨none,(.x (.st 3 (.t 6) (.t 25))),none,63⟩,
⟨(some 7),(.q (.mv (.t 32))),none,511⟩])
.ret)))))⟩
theorem row33 : Row Go.Proofs.Tryd.prog (33, a33) := ⟨Go.Proofs.Tryd.f33, Go.Proofs.Tryd.func33, by kernel_rfl⟩
noncomputable def a34 : AFn :=
⟨14,[(.t 4)],(.seq (.reg [⟨(some 4),(.q (.mv (.c (.int .i64 (.ofNat 0))))),none,0⟩])
(.seq (.reg [⟨(some 5),(.q (.mv (.t 0))),none,0⟩,
⟨(some 6),(.q (.mv (.t 1))),none,0⟩,
⟨(some 7),(.q (.bin .rem (.p .int) (.t 5) (.t 6))),none,0⟩,
⟨(some 0),(.q (.mv (.t 7))),none,0⟩])
(.seq (.seq (.reg [⟨(some 8),(.q (.mv (.t 0))),none,0⟩,
⟨(some 9),(.q (.bin .lss (.p .int) (.t 8) (.c (.int .i64 (.ofNat 0))))),none,0⟩])
(.cond (.t 9) (.reg [⟨(some 10),(.q (.mv (.t 0))),none,0⟩,
⟨(some 11),(.q (.mv (.t 1))),none,0⟩,
⟨(some 12),(.q (.bin .add (.p .int) (.t 10) (.t 11))),none,0⟩,
⟨(some 0),(.q (.mv (.t 12))),none,0⟩]) .skip))
(.seq (.reg [⟨(some 13),(.q (.mv (.t 0))),none,0⟩,
⟨(some 4),(.q (.mv (.t 13))),none,0⟩])
.ret))))⟩
theorem row34 : Row Go.Proofs.Tryd.prog (34, a34) := ⟨Go.Proofs.Tryd.f34, Go.Proofs.Tryd.func34, by kernel_rfl⟩
noncomputable def a35 : AFn :=
⟨14,[(.cell 4 true 3)],(.seq (.reg [⟨(some 2),(.a (.box 25 (.t 0))),none,0⟩,
⟨(some 3),(.a (.box 25 (.t 1))),none,0⟩,
⟨(some 4),(.a (.alloc 25 [(.bool false),.nilsl,.nilsl])),none,0⟩])
(.seq (.reg [⟨(some 8),(.q (.ld true 3 (.t 2))),none,0⟩,
⟨(some 9),(.q (.ld true 3 (.t 3))),none,0⟩,
⟨(some 10),(.x (.call (.c (.fn 26 [] [])) [(.t 8),(.t 9)])),none,0⟩,
⟨(some 7),(.q (.mv (.t 10))),none,0⟩,
⟨(some 11),(.q (.extract (.t 7) 0)),none,0⟩,
⟨(some 12),(.q (.extract (.t 7) 1)),none,0⟩,
⟨(some 5),(.a (.alloc 25 [(.bool false),.nilsl,.nilsl])),none,0⟩,
⟨none,(.x (.st 3 (.t 5) (.t 11))),none,0⟩,
⟨(some 6),(.q (.mv (.t 12))),none,0⟩])
(.seq (.reg [⟨(some 13),(.q (.ld true 3 (.t 5))),none,0⟩,
⟨none,(.x (.st 3 (.t 4) (.t 13))),none,0⟩])
.ret)))⟩
theorem row35 : Row Go.Proofs.Tryd.prog (35, a35) := ⟨Go.Proofs.Tryd.f35, Go.Proofs.Tryd.func35, by kernel_rfl⟩
noncomputable def a36 : AFn :=
⟨24,[(.cell 2 true 3),(.t 3)],(.seq (.reg [⟨(some 1),(.a (.box 25 (.t 0))),none,0⟩,
⟨(some 2),(.a (.alloc 25 [(.bool false),.nilsl,.nilsl])),none,0⟩,
⟨(some 3),(.q (.mv (.c (.int .i64 (.ofNat 0))))),none,0⟩])
(.seq (.seq (.reg [⟨(some 5),(.q (.ld true 3 (.t 1))),none,0⟩,
⟨(some 6),(.x (.call (.c (.fn 31 [] [])) [(.t 5)])),none,0⟩,
⟨(some 4),(.q (.mv (.t 6))),none,0⟩])
(.seq (.reg [⟨(some 7),(.q (.mv (.t 4))),none,0⟩,
⟨(some 8),(.q (.bin .neq (.p .int) (.t 7) (.c (.int .i64 (.ofNat 0))))),none,0⟩])
(.cond (.t 8) (.seq (.reg [⟨(some 9),(.q (.build [(.bool false),.nilsl,.nilsl] [])),none,0⟩,
⟨(some 10),(.q (.mv (.t 4))),none,0⟩,
⟨none,(.x (.st 3 (.t 2) (.t 9))),none,0⟩,
⟨(some 3),(.q (.mv (.t 10))),none,0⟩])
.ret) .skip)))
(.seq (.reg [⟨(some 11),(.q (.faddr 0 (.t 1))),none,0⟩,
⟨(some 12),(.q (.ld false 1 (.t 11))),none,0⟩,
⟨(some 13),(.q (.faddr 1 (.t 1))),none,0⟩,
⟨(some 14),(.q (.ld false 1 (.t 13))),none,0⟩,
⟨(some 15),(.q (.faddr 2 (.t 1))),none,0⟩,
⟨(some 16),(.q (.ld false 1 (.t 15))),none,0⟩,
⟨(some 17),(.x (.call (.c (.fn 79 [] [])) [(.t 12),(.t 14),(.t 16)])),none,0⟩,
⟨(some 18),(.q (.extract (.t 17) 0)),none,0⟩,
⟨(some 19),(.q (.extract (.t 17) 1)),none,0⟩,
⟨(some 20),(.x (.call (.c (.fn 65 [] [])) [(.t 18),(.t 19)])),none,0⟩,
⟨(some 21),(.x (.call (.c (.fn 52 [] [])) [(.t 20)])),none,0⟩,
⟨(some 22),(.q (.extract (.t 21) 0)),none,0⟩,
⟨(some 23),(.q (.extract (.t 21) 1)),none,0⟩,
⟨none,(.x (.st 3 (.t 2) (.t 22))),none,0⟩,
⟨(some 3),(.q (.mv (.t 23))),none,0⟩])
.ret)))⟩
theorem row36 : Row Go.Proofs.Tryd.prog (36, a36) := ⟨Go.Proofs.Tryd.f36, Go.Proofs.Tryd.func36, by kernel_rfl⟩
end Go.Ev.Gl
