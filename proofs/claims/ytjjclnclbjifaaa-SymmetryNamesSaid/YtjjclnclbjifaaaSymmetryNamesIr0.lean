/- The functions that SymmetryNames reaches, as data of the evaluator (part 0), written by program; each is shown to be the compiler's result on the loaded function. -/
import Derived.Test.YtjjclnclbjifaaaProg
import Derived.Test.YtjjclnclbjifaaaEvZg
import Derived.KernelRfl
namespace Go.Proofs.Ytjjclnclbjifaaa.symmetryNames
open Go.Ev
set_option maxRecDepth 100000
noncomputable def a8 : AFn :=
⟨196,[(.t 0)],(.seq (.reg [⟨(some 0),(.q (.mv (.c (.bool false)))),none,0⟩])
(.seq (.seq (.reg [⟨(some 25),(.x (.call (.c (.fn 9 [] [])) [])),none,0⟩,
⟨(some 26),(.q (.un .not (.t 25))),none,0⟩])
(.cond (.t 26) (.seq (.reg [⟨(some 0),(.q (.mv (.c (.bool false)))),none,0⟩])
.ret) .skip))
(.seq (.reg [⟨(some 27),(.x (.call (.c (.fn 33 [] [])) [])),none,0⟩,
⟨(some 28),(.x (.call (.c (.fn 34 [] [])) [])),none,0⟩,
⟨(some 29),(.a (.bslice 3 1 4 [(.int .i64 (.ofNat 0))] [(0,(.c (.int .i64 (.ofNat 0)))),(1,(.c (.int .i64 (.ofNat 3)))),(2,(.c (.int .i64 (.ofNat 2)))),(3,(.c (.int .i64 (.ofNat 1))))])),none,0⟩,
⟨(some 1),(.a (.alloc 28 [(.int .i64 (.ofNat 0)),.nilsl,.nilsl])),none,0⟩,
⟨(some 2),(.a (.alloc 28 [(.int .i64 (.ofNat 0)),.nilsl,.nilsl])),none,0⟩,
⟨none,(.x (.st 3 (.t 1) (.t 27))),none,0⟩,
⟨none,(.x (.st 3 (.t 2) (.t 28))),none,0⟩,
⟨(some 3),(.q (.mv (.t 29))),none,0⟩])
(.seq (.reg [⟨(some 30),(.q (.ld true 3 (.t 1))),none,0⟩,
⟨(some 31),(.q (.mv (.t 3))),none,0⟩,
⟨(some 32),(.x (.call (.c (.fn 15 [] [])) [(.t 30),(.t 31)])),none,0⟩,
⟨(some 33),(.q (.bin .eql (.p .int) (.t 32) (.c (.int .i64 (.ofNat 0))))),none,0⟩,
⟨(some 34),(.q (.mv (.t 33))),none,0⟩,
⟨(some 35),(.q (.ld true 3 (.t 1))),(some (34,true)),0⟩,
⟨(some 36),(.a (.bslice 3 1 3 [(.int .i64 (.ofNat 0))] [(0,(.c (.int .i64 (.ofNat 0)))),(1,(.c (.int .i64 (.ofNat 1)))),(2,(.c (.int .i64 (.ofNat 2))))])),(some (34,true)),0⟩,
⟨(some 37),(.x (.call (.c (.fn 15 [] [])) [(.t 35),(.t 36)])),(some (34,true)),0⟩,
⟨(some 38),(.q (.bin .eql (.p .int) (.t 37) (.c (.int .i64 (.ofNat 10))))),(some (34,true)),0⟩,
⟨(some 39),(.q (.pick (.t 34) (.t 38) (.c (.bool false)))),none,0⟩,
⟨(some 40),(.q (.mv (.t 39))),none,0⟩,
⟨(some 41),(.q (.ld true 3 (.t 1))),(some (40,true)),0⟩,
⟨(some 42),(.a (.bslice 3 1 4 [(.int .i64 (.ofNat 0))] [(0,(.c (.int .i64 (.ofNat 0)))),(1,(.c (.int .i64 (.ofNat 1)))),(2,(.c (.int .i64 (.ofNat 2)))),(3,(.c (.int .i64 (.ofNat 4))))])),(some (40,true)),0⟩,
⟨(some 43),(.x (.call (.c (.fn 15 [] [])) [(.t 41),(.t 42)])),(some (40,true)),0⟩,
⟨(some 44),(.q (.bin .eql (.p .int) (.t 43) (.c (.int .i64 (.ofNat 2))))),(some (40,true)),0⟩,
⟨(some 45),(.q (.pick (.t 40) (.t 44) (.c (.bool false)))),none,0⟩,
⟨(some 46),(.q (.mv (.t 45))),none,0⟩,
⟨(some 47),(.q (.ld true 3 (.t 1))),(some (46,true)),0⟩,
⟨(some 48),(.a (.bslice 3 1 4 [(.int .i64 (.ofNat 0))] [(0,(.c (.int .i64 (.ofNat 0)))),(1,(.c (.int .i64 (.ofNat 1)))),(2,(.c (.int .i64 (.ofNat 2)))),(3,(.c (.int .i64 (.ofNat 2))))])),(some (46,true)),0⟩,
⟨(some 49),(.x (.call (.c (.fn 15 [] [])) [(.t 47),(.t 48)])),(some (46,true)),0⟩,
⟨(some 50),(.q (.bin .eql (.p .int) (.t 49) (.c (.int .i64 (.ofNat 8))))),(some (46,true)),0⟩,
⟨(some 51),(.q (.pick (.t 46) (.t 50) (.c (.bool false)))),none,0⟩,
⟨(some 52),(.q (.mv (.t 51))),none,0⟩,
⟨(some 53),(.q (.build [(.int .i64 (.ofNat 0)),.nilsl,.nilsl] [])),(some (52,true)),0⟩,
⟨(some 54),(.x (.call (.c (.fn 15 [] [])) [(.t 53),(.c .nilsl)])),(some (52,true)),0⟩,
⟨(some 55),(.q (.bin .neq (.p .int) (.t 54) (.c (.int .i64 (.ofNat 0))))),(some (52,true)),0⟩,
⟨(some 56),(.q (.pick (.t 52) (.t 55) (.c (.bool false)))),none,0⟩,
⟨(some 4),(.q (.mv (.t 56))),none,0⟩])
(.seq (.reg [⟨(some 58),(.q (.ld true 3 (.t 1))),none,0⟩,
⟨(some 59),(.x (.call (.c (.fn 26 [] [])) [(.t 58)])),none,0⟩,
⟨(some 57),(.q (.mv (.t 59))),none,0⟩,
⟨(some 60),(.q (.extract (.t 57) 0)),none,0⟩,
⟨(some 61),(.q (.extract (.t 57) 1)),none,0⟩,
⟨(some 5),(.q (.mv (.t 60))),none,0⟩,
⟨(some 6),(.q (.mv (.t 61))),none,0⟩])
(.seq (.drw [⟨(some 63),(.q (.ld true 3 (.t 2))),none,0⟩,
⟨(some 64),(.x (.call (.c (.fn 35 [] [])) [])),none,0⟩,
⟨(some 65),(.a (.bslice 22 1 1 [.nilsl] [(0,(.t 64))])),none,2⟩,
⟨(some 66),(.x (.call (.c (.fn 31 [] [])) [(.t 63),(.t 65)])),none,7⟩,
⟨(some 62),(.q (.mv (.t 66))),none,15⟩,
⟨(some 67),(.q (.extract (.t 62) 0)),none,31⟩,
⟨(some 68),(.q (.extract (.t 62) 1)),none,31⟩,
⟨(some 7),(.q (.mv (.t 67))),none,63⟩,
⟨(some 8),(.q (.mv (.t 68))),none,255⟩])
(.seq (.reg [⟨(some 70),(.q (.ld true 3 (.t 1))),none,0⟩,
⟨(some 71),(.x (.call (.c (.fn 31 [] [])) [(.t 70),(.c .nilsl)])),none,0⟩,
⟨(some 69),(.q (.mv (.t 71))),none,0⟩,
⟨(some 72),(.q (.extract (.t 69) 0)),none,0⟩,
⟨(some 73),(.q (.extract (.t 69) 1)),none,0⟩,
⟨(some 9),(.q (.mv (.t 72))),none,0⟩,
⟨(some 10),(.q (.mv (.t 73))),none,0⟩])
(.seq (.drw [⟨(some 75),(.q (.ld true 3 (.t 2))),none,0⟩,
⟨(some 76),(.x (.call (.c (.fn 35 [] [])) [])),none,0⟩,
⟨(some 77),(.a (.bslice 22 1 1 [.nilsl] [(0,(.t 76))])),none,2⟩,
⟨(some 78),(.x (.call (.c (.fn 28 [] [])) [(.t 75),(.t 77)])),none,7⟩,
⟨(some 74),(.q (.mv (.t 78))),none,15⟩,
⟨(some 79),(.q (.extract (.t 74) 0)),none,31⟩,
⟨(some 80),(.q (.extract (.t 74) 1)),none,31⟩,
⟨(some 81),(.q (.extract (.t 74) 2)),none,31⟩,
⟨(some 11),(.q (.mv (.t 79))),none,63⟩,
⟨(some 12),(.q (.mv (.t 80))),none,383⟩,
⟨(some 13),(.q (.mv (.t 81))),none,1023⟩])
(.seq (.reg [⟨(some 83),(.q (.ld true 3 (.t 1))),none,0⟩,
⟨(some 84),(.q (.mv (.t 3))),none,0⟩,
⟨(some 85),(.q (.mv (.t 3))),none,0⟩,
⟨(some 86),(.x (.call (.c (.fn 12 [] [])) [(.t 83),(.t 84),(.t 85)])),none,0⟩,
⟨(some 82),(.q (.mv (.t 86))),none,0⟩,
⟨(some 87),(.q (.extract (.t 82) 0)),none,0⟩,
⟨(some 88),(.q (.extract (.t 82) 1)),none,0⟩,
⟨(some 14),(.q (.mv (.t 87))),none,0⟩,
⟨(some 15),(.q (.mv (.t 88))),none,0⟩])
(.seq (.reg [⟨(some 90),(.q (.ld true 3 (.t 1))),none,0⟩,
⟨(some 91),(.q (.mv (.t 3))),none,0⟩,
⟨(some 92),(.x (.call (.c (.fn 13 [] [])) [(.t 90),(.t 91)])),none,0⟩,
⟨(some 89),(.q (.mv (.t 92))),none,0⟩,
⟨(some 93),(.q (.extract (.t 89) 0)),none,0⟩,
⟨(some 94),(.q (.extract (.t 89) 1)),none,0⟩,
⟨(some 16),(.q (.mv (.t 93))),none,0⟩,
⟨(some 17),(.q (.mv (.t 94))),none,0⟩])
(.seq (.reg [⟨(some 18),(.q (.mv (.c .nilsl))),none,0⟩])
(.seq (.seq (.reg [⟨(some 19),(.q (.mv (.c (.int .i64 (.ofNat 0))))),none,0⟩])
(.block 0 (.loop (.seq (.seq (.reg [⟨(some 95),(.q (.mv (.t 19))),none,0⟩,
⟨(some 96),(.q (.bin .lss (.p .int) (.t 95) (.c (.int .i64 (.ofNat 16))))),none,0⟩])
(.cond (.t 96) .skip (.exit 0)))
(.seq (.block 1 (.reg [⟨(some 99),(.q (.mv (.t 18))),none,0⟩,
⟨(some 100),(.q (.mv (.t 3))),none,0⟩,
⟨(some 101),(.a (.bslice 22 1 1 [.nilsl] [(0,(.t 100))])),none,0⟩,
⟨(some 102),(.x (.app 22 1 24 (.t 99) (.t 101))),none,0⟩,
⟨(some 18),(.q (.mv (.t 102))),none,0⟩]))
(.reg [⟨(some 97),(.q (.mv (.t 19))),none,0⟩,
⟨(some 98),(.q (.bin .add (.p .int) (.t 97) (.c (.int .i64 (.ofNat 1))))),none,0⟩,
⟨(some 19),(.q (.mv (.t 98))),none,0⟩]))))))
(.seq (.reg [⟨(some 104),(.q (.ld true 3 (.t 1))),none,0⟩,
⟨(some 105),(.q (.mv (.t 18))),none,0⟩,
⟨(some 106),(.x (.call (.c (.fn 31 [] [])) [(.t 104),(.t 105)])),none,0⟩,
⟨(some 103),(.q (.mv (.t 106))),none,0⟩,
⟨(some 107),(.q (.extract (.t 103) 0)),none,0⟩,
⟨(some 108),(.q (.extract (.t 103) 1)),none,0⟩,
⟨(some 20),(.q (.mv (.t 107))),none,0⟩,
⟨(some 21),(.q (.mv (.t 108))),none,0⟩])
(.seq (.drw [⟨(some 110),(.q (.ld true 3 (.t 1))),none,0⟩,
⟨(some 111),(.q (.mv (.t 18))),none,0⟩,
⟨(some 112),(.q (.mv (.t 3))),none,0⟩,
⟨(some 113),(.a (.bslice 22 1 1 [.nilsl] [(0,(.t 112))])),none,4⟩,
⟨(some 114),(.x (.app 22 1 24 (.t 111) (.t 113))),none,14⟩,
⟨(some 115),(.x (.call (.c (.fn 31 [] [])) [(.t 110),(.t 114)])),none,31⟩,
⟨(some 109),(.q (.mv (.t 115))),none,63⟩,
⟨(some 116),(.q (.extract (.t 109) 0)),none,127⟩,
⟨(some 117),(.q (.extract (.t 109) 1)),none,127⟩,
⟨(some 22),(.q (.mv (.t 116))),none,255⟩,
⟨(some 23),(.q (.mv (.t 117))),none,1023⟩])
(.seq (.reg [⟨(some 118),(.q (.mv (.t 6))),none,0⟩,
⟨(some 119),(.q (.bin .eql (.p .int) (.t 118) (.c (.int .i64 (.ofNat 0))))),none,0⟩,
⟨(some 120),(.q (.mv (.t 119))),none,0⟩,
⟨(some 121),(.q (.mv (.t 5))),(some (120,true)),0⟩,
⟨(some 122),(.q (.mv (.t 3))),(some (120,true)),0⟩,
⟨(some 123),(.a (.bslice 22 1 1 [.nilsl] [(0,(.t 122))])),(some (120,true)),0⟩,
⟨(some 124),(.x (.call (.c (.fn 25 [] [])) [(.t 121),(.t 123)])),(some (120,true)),0⟩,
⟨(some 125),(.q (.pick (.t 120) (.t 124) (.c (.bool false)))),none,0⟩,
⟨(some 126),(.q (.mv (.t 125))),none,0⟩,
⟨(some 127),(.q (.mv (.t 8))),(some (126,true)),0⟩,
⟨(some 128),(.q (.bin .eql (.p .int) (.t 127) (.c (.int .i64 (.ofNat 0))))),(some (126,true)),0⟩,
⟨(some 129),(.q (.pick (.t 126) (.t 128) (.c (.bool false)))),none,0⟩,
⟨(some 130),(.q (.mv (.t 129))),none,0⟩,
⟨(some 131),(.q (.mv (.t 7))),(some (130,true)),0⟩,
⟨(some 132),(.a (.bslice 3 1 8 [(.int .i64 (.ofNat 0))] [(0,(.c (.int .i64 (.ofNat 0)))),(1,(.c (.int .i64 (.ofNat 1)))),(2,(.c (.int .i64 (.ofNat 2)))),(3,(.c (.int .i64 (.ofNat 3)))),(4,(.c (.int .i64 (.ofNat 4)))),(5,(.c (.int .i64 (.ofNat 5)))),(6,(.c (.int .i64 (.ofNat 6)))),(7,(.c (.int .i64 (.ofNat 7))))])),(some (130,true)),0⟩,
⟨(some 133),(.x (.call (.c (.fn 35 [] [])) [])),(some (130,true)),0⟩,
⟨(some 134),(.a (.bslice 22 1 2 [.nilsl] [(0,(.t 132)),(1,(.t 133))])),(some (130,true)),0⟩,
⟨(some 135),(.x (.call (.c (.fn 25 [] [])) [(.t 131),(.t 134)])),(some (130,true)),0⟩,
⟨(some 136),(.q (.pick (.t 130) (.t 135) (.c (.bool false)))),none,0⟩,
⟨(some 137),(.q (.mv (.t 136))),none,0⟩,
⟨(some 138),(.q (.mv (.t 10))),(some (137,true)),0⟩,
⟨(some 139),(.q (.bin .eql (.p .int) (.t 138) (.c (.int .i64 (.ofNat 0))))),(some (137,true)),0⟩,
⟨(some 140),(.q (.pick (.t 137) (.t 139) (.c (.bool false)))),none,0⟩,
⟨(some 141),(.q (.mv (.t 140))),none,0⟩,
⟨(some 142),(.q (.mv (.t 9))),(some (141,true)),0⟩,
⟨(some 143),(.a (.bslice 3 1 4 [(.int .i64 (.ofNat 0))] [(0,(.c (.int .i64 (.ofNat 0)))),(1,(.c (.int .i64 (.ofNat 1)))),(2,(.c (.int .i64 (.ofNat 2)))),(3,(.c (.int .i64 (.ofNat 3))))])),(some (141,true)),0⟩,
⟨(some 144),(.a (.bslice 22 1 1 [.nilsl] [(0,(.t 143))])),(some (141,true)),0⟩,
⟨(some 145),(.x (.call (.c (.fn 25 [] [])) [(.t 142),(.t 144)])),(some (141,true)),0⟩,
⟨(some 146),(.q (.pick (.t 141) (.t 145) (.c (.bool false)))),none,0⟩,
⟨(some 147),(.q (.mv (.t 146))),none,0⟩,
⟨(some 148),(.q (.mv (.t 21))),(some (147,true)),0⟩,
⟨(some 149),(.q (.bin .eql (.p .int) (.t 148) (.c (.int .i64 (.ofNat 0))))),(some (147,true)),0⟩,
⟨(some 150),(.q (.pick (.t 147) (.t 149) (.c (.bool false)))),none,0⟩,
⟨(some 151),(.q (.mv (.t 150))),none,0⟩,
⟨(some 152),(.q (.mv (.t 20))),(some (151,true)),0⟩,
⟨(some 153),(.q (.lenSl (.t 152))),(some (151,true)),0⟩,
⟨(some 154),(.q (.bin .eql (.p .int) (.t 153) (.c (.int .i64 (.ofNat 2))))),(some (151,true)),0⟩,
⟨(some 155),(.q (.pick (.t 151) (.t 154) (.c (.bool false)))),none,0⟩,
⟨(some 156),(.q (.mv (.t 155))),none,0⟩,
⟨(some 157),(.q (.mv (.t 23))),(some (156,true)),0⟩,
⟨(some 158),(.q (.bin .eql (.p .int) (.t 157) (.c (.int .i64 (.ofNat 4))))),(some (156,true)),0⟩,
⟨(some 159),(.q (.pick (.t 156) (.t 158) (.c (.bool false)))),none,0⟩,
⟨(some 24),(.q (.mv (.t 159))),none,0⟩])
(.seq (.reg [⟨(some 160),(.q (.mv (.t 4))),none,0⟩,
⟨(some 161),(.q (.mv (.t 160))),none,0⟩,
⟨(some 162),(.q (.mv (.t 24))),(some (161,true)),0⟩,
⟨(some 163),(.q (.pick (.t 161) (.t 162) (.c (.bool false)))),none,0⟩,
⟨(some 164),(.q (.mv (.t 163))),none,0⟩,
⟨(some 165),(.q (.mv (.t 13))),(some (164,true)),0⟩,
⟨(some 166),(.q (.bin .eql (.p .int) (.t 165) (.c (.int .i64 (.ofNat 0))))),(some (164,true)),0⟩,
⟨(some 167),(.q (.pick (.t 164) (.t 166) (.c (.bool false)))),none,0⟩,
⟨(some 168),(.q (.mv (.t 167))),none,0⟩,
⟨(some 169),(.q (.mv (.t 11))),(some (168,true)),0⟩,
⟨(some 170),(.a (.bslice 3 1 8 [(.int .i64 (.ofNat 0))] [(0,(.c (.int .i64 (.ofNat 0)))),(1,(.c (.int .i64 (.ofNat 1)))),(2,(.c (.int .i64 (.ofNat 2)))),(3,(.c (.int .i64 (.ofNat 3)))),(4,(.c (.int .i64 (.ofNat 1)))),(5,(.c (.int .i64 (.ofNat 2)))),(6,(.c (.int .i64 (.ofNat 3)))),(7,(.c (.int .i64 (.ofNat 7))))])),(some (168,true)),0⟩,
⟨(some 171),(.x (.call (.c (.fn 14 [] [])) [(.t 169),(.t 170)])),(some (168,true)),0⟩,
⟨(some 172),(.q (.pick (.t 168) (.t 171) (.c (.bool false)))),none,0⟩,
⟨(some 173),(.q (.mv (.t 172))),none,0⟩,
⟨(some 174),(.q (.mv (.t 12))),(some (173,true)),0⟩,
⟨(some 175),(.q (.lenSl (.t 174))),(some (173,true)),0⟩,
⟨(some 176),(.q (.bin .eql (.p .int) (.t 175) (.c (.int .i64 (.ofNat 0))))),(some (173,true)),0⟩,
⟨(some 177),(.q (.pick (.t 173) (.t 176) (.c (.bool false)))),none,0⟩,
⟨(some 178),(.q (.mv (.t 177))),none,0⟩,
⟨(some 179),(.q (.mv (.t 15))),(some (178,true)),0⟩,
⟨(some 180),(.q (.bin .eql (.p .int) (.t 179) (.c (.int .i64 (.ofNat 0))))),(some (178,true)),0⟩,
⟨(some 181),(.q (.pick (.t 178) (.t 180) (.c (.bool false)))),none,0⟩,
⟨(some 182),(.q (.mv (.t 181))),none,0⟩,
⟨(some 183),(.q (.mv (.t 14))),(some (182,true)),0⟩,
⟨(some 184),(.a (.bslice 3 1 4 [(.int .i64 (.ofNat 0))] [(0,(.c (.int .i64 (.ofNat 0)))),(1,(.c (.int .i64 (.ofNat 1)))),(2,(.c (.int .i64 (.ofNat 2)))),(3,(.c (.int .i64 (.ofNat 3))))])),(some (182,true)),0⟩,
⟨(some 185),(.x (.call (.c (.fn 14 [] [])) [(.t 183),(.t 184)])),(some (182,true)),0⟩,
⟨(some 186),(.q (.pick (.t 182) (.t 185) (.c (.bool false)))),none,0⟩,
⟨(some 187),(.q (.mv (.t 186))),none,0⟩,
⟨(some 188),(.q (.mv (.t 17))),(some (187,true)),0⟩,
⟨(some 189),(.q (.bin .eql (.p .int) (.t 188) (.c (.int .i64 (.ofNat 0))))),(some (187,true)),0⟩,
⟨(some 190),(.q (.pick (.t 187) (.t 189) (.c (.bool false)))),none,0⟩,
⟨(some 191),(.q (.mv (.t 190))),none,0⟩,
⟨(some 192),(.q (.mv (.t 16))),(some (191,true)),0⟩,
⟨(some 193),(.q (.mv (.t 3))),(some (191,true)),0⟩,
⟨(some 194),(.x (.call (.c (.fn 14 [] [])) [(.t 192),(.t 193)])),(some (191,true)),0⟩,
⟨(some 195),(.q (.pick (.t 191) (.t 194) (.c (.bool false)))),none,0⟩,
⟨(some 0),(.q (.mv (.t 195))),none,0⟩])
.ret))))))))))))))))⟩
theorem row8 : Row Try.prog (8, a8) := ⟨Try.f8, Try.func8, by kernel_rfl⟩
noncomputable def a9 : AFn :=
⟨22,[(.t 0)],(.seq (.reg [⟨(some 0),(.q (.mv (.c (.bool false)))),none,0⟩])
(.seq (.reg [⟨(some 4),(.x (.call (.c (.fn 34 [] [])) [])),none,0⟩,
⟨(some 5),(.x (.call (.c (.fn 26 [] [])) [(.t 4)])),none,0⟩,
⟨(some 3),(.q (.mv (.t 5))),none,0⟩,
⟨(some 6),(.q (.extract (.t 3) 0)),none,0⟩,
⟨(some 7),(.q (.extract (.t 3) 1)),none,0⟩,
⟨(some 1),(.q (.mv (.t 6))),none,0⟩,
⟨(some 2),(.q (.mv (.t 7))),none,0⟩])
(.seq (.reg [⟨(some 8),(.q (.mv (.t 2))),none,0⟩,
⟨(some 9),(.q (.bin .eql (.p .int) (.t 8) (.c (.int .i64 (.ofNat 0))))),none,0⟩,
⟨(some 10),(.q (.mv (.t 9))),none,0⟩,
⟨(some 11),(.q (.mv (.t 1))),(some (10,true)),0⟩,
⟨(some 12),(.x (.call (.c (.fn 35 [] [])) [])),(some (10,true)),0⟩,
⟨(some 13),(.a (.bslice 22 1 1 [.nilsl] [(0,(.t 12))])),(some (10,true)),0⟩,
⟨(some 14),(.x (.call (.c (.fn 25 [] [])) [(.t 11),(.t 13)])),(some (10,true)),0⟩,
⟨(some 15),(.q (.pick (.t 10) (.t 14) (.c (.bool false)))),none,0⟩,
⟨(some 16),(.q (.mv (.t 15))),none,0⟩,
⟨(some 17),(.x (.call (.c (.fn 33 [] [])) [])),(some (16,true)),0⟩,
⟨(some 18),(.a (.bslice 3 1 4 [(.int .i64 (.ofNat 0))] [(0,(.c (.int .i64 (.ofNat 0)))),(1,(.c (.int .i64 (.ofNat 2)))),(2,(.c (.int .i64 (.ofNat 1)))),(3,(.c (.int .i64 (.ofNat 3))))])),(some (16,true)),0⟩,
⟨(some 19),(.x (.call (.c (.fn 15 [] [])) [(.t 17),(.t 18)])),(some (16,true)),0⟩,
⟨(some 20),(.q (.bin .eql (.p .int) (.t 19) (.c (.int .i64 (.ofNat 3))))),(some (16,true)),0⟩,
⟨(some 21),(.q (.pick (.t 16) (.t 20) (.c (.bool false)))),none,0⟩,
⟨(some 0),(.q (.mv (.t 21))),none,0⟩])
.ret)))⟩
theorem row9 : Row Try.prog (9, a9) := ⟨Try.f9, Try.func9, by kernel_rfl⟩
noncomputable def a12 : AFn :=
⟨39,[(.t 6),(.t 7)],(.seq (.reg [⟨(some 3),(.a (.box 28 (.t 0))),none,0⟩,
⟨(some 6),(.q (.mv (.c .nilsl))),none,0⟩,
⟨(some 7),(.q (.mv (.c (.int .i64 (.ofNat 0))))),none,0⟩])
(.seq (.reg [⟨(some 11),(.q (.ld true 3 (.t 3))),none,0⟩,
⟨(some 12),(.x (.call (.c (.fn 37 [] [])) [(.t 11)])),none,0⟩,
⟨(some 10),(.q (.mv (.t 12))),none,0⟩,
⟨(some 13),(.q (.extract (.t 10) 0)),none,0⟩,
⟨(some 14),(.q (.extract (.t 10) 1)),none,0⟩,
⟨(some 8),(.q (.mv (.t 13))),none,0⟩,
⟨(some 9),(.q (.mv (.t 14))),none,0⟩])
(.seq (.seq (.reg [⟨(some 15),(.q (.mv (.t 9))),none,0⟩,
⟨(some 16),(.q (.bin .neq (.p .int) (.t 15) (.c (.int .i64 (.ofNat 0))))),none,0⟩])
(.cond (.t 16) (.seq (.reg [⟨(some 17),(.q (.mv (.t 9))),none,0⟩,
⟨(some 6),(.q (.mv (.c .nilsl))),none,0⟩,
⟨(some 7),(.q (.mv (.t 17))),none,0⟩])
.ret) .skip))
(.seq (.seq (.reg [⟨(some 19),(.q (.mv (.t 8))),none,0⟩,
⟨(some 20),(.q (.mv (.t 1))),none,0⟩,
⟨(some 21),(.x (.call (.c (.fn 38 [] [])) [(.t 19),(.t 20)])),none,0⟩,
⟨(some 18),(.q (.mv (.t 21))),none,0⟩,
⟨(some 22),(.q (.extract (.t 18) 0)),none,0⟩,
⟨(some 23),(.q (.extract (.t 18) 1)),none,0⟩,
⟨(some 9),(.q (.mv (.t 23))),none,0⟩])
(.seq (.reg [⟨(some 24),(.q (.mv (.t 9))),none,0⟩,
⟨(some 25),(.q (.bin .neq (.p .int) (.t 24) (.c (.int .i64 (.ofNat 0))))),none,0⟩])
(.cond (.t 25) (.seq (.reg [⟨(some 26),(.q (.mv (.t 9))),none,0⟩,
⟨(some 6),(.q (.mv (.c .nilsl))),none,0⟩,
⟨(some 7),(.q (.mv (.t 26))),none,0⟩])
.ret) .skip)))
(.seq (.seq (.reg [⟨(some 28),(.q (.mv (.t 8))),none,0⟩,
⟨(some 29),(.q (.mv (.t 2))),none,0⟩,
⟨(some 30),(.x (.call (.c (.fn 38 [] [])) [(.t 28),(.t 29)])),none,0⟩,
⟨(some 27),(.q (.mv (.t 30))),none,0⟩,
⟨(some 31),(.q (.extract (.t 27) 0)),none,0⟩,
⟨(some 32),(.q (.extract (.t 27) 1)),none,0⟩,
⟨(some 9),(.q (.mv (.t 32))),none,0⟩])
(.seq (.reg [⟨(some 33),(.q (.mv (.t 9))),none,0⟩,
⟨(some 34),(.q (.bin .neq (.p .int) (.t 33) (.c (.int .i64 (.ofNat 0))))),none,0⟩])
(.cond (.t 34) (.seq (.reg [⟨(some 35),(.q (.mv (.t 9))),none,0⟩,
⟨(some 6),(.q (.mv (.c .nilsl))),none,0⟩,
⟨(some 7),(.q (.mv (.t 35))),none,0⟩])
.ret) .skip)))
(.seq (.reg [⟨(some 36),(.q (.mv (.t 1))),none,0⟩,
⟨(some 37),(.q (.mv (.t 2))),none,0⟩,
⟨(some 38),(.x (.call (.c (.fn 39 [] [])) [(.t 36),(.t 37)])),none,0⟩,
⟨(some 6),(.q (.mv (.t 38))),none,0⟩,
⟨(some 7),(.q (.mv (.c (.int .i64 (.ofNat 0))))),none,0⟩])
.ret))))))⟩
theorem row12 : Row Try.prog (12, a12) := ⟨Try.f12, Try.func12, by kernel_rfl⟩
noncomputable def a13 : AFn :=
⟨44,[(.t 4),(.t 5)],(.seq (.reg [⟨(some 2),(.a (.box 28 (.t 0))),none,0⟩,
⟨(some 4),(.q (.mv (.c .nilsl))),none,0⟩,
⟨(some 5),(.q (.mv (.c (.int .i64 (.ofNat 0))))),none,0⟩])
(.seq (.reg [⟨(some 12),(.q (.ld true 3 (.t 2))),none,0⟩,
⟨(some 13),(.x (.call (.c (.fn 37 [] [])) [(.t 12)])),none,0⟩,
⟨(some 11),(.q (.mv (.t 13))),none,0⟩,
⟨(some 14),(.q (.extract (.t 11) 0)),none,0⟩,
⟨(some 15),(.q (.extract (.t 11) 1)),none,0⟩,
⟨(some 6),(.q (.mv (.t 14))),none,0⟩,
⟨(some 7),(.q (.mv (.t 15))),none,0⟩])
(.seq (.seq (.reg [⟨(some 16),(.q (.mv (.t 7))),none,0⟩,
⟨(some 17),(.q (.bin .neq (.p .int) (.t 16) (.c (.int .i64 (.ofNat 0))))),none,0⟩])
(.cond (.t 17) (.seq (.reg [⟨(some 18),(.q (.mv (.t 7))),none,0⟩,
⟨(some 4),(.q (.mv (.c .nilsl))),none,0⟩,
⟨(some 5),(.q (.mv (.t 18))),none,0⟩])
.ret) .skip))
(.seq (.seq (.reg [⟨(some 20),(.q (.mv (.t 6))),none,0⟩,
⟨(some 21),(.q (.mv (.t 1))),none,0⟩,
⟨(some 22),(.x (.call (.c (.fn 38 [] [])) [(.t 20),(.t 21)])),none,0⟩,
⟨(some 19),(.q (.mv (.t 22))),none,0⟩,
⟨(some 23),(.q (.extract (.t 19) 0)),none,0⟩,
⟨(some 24),(.q (.extract (.t 19) 1)),none,0⟩,
⟨(some 7),(.q (.mv (.t 24))),none,0⟩])
(.seq (.reg [⟨(some 25),(.q (.mv (.t 7))),none,0⟩,
⟨(some 26),(.q (.bin .neq (.p .int) (.t 25) (.c (.int .i64 (.ofNat 0))))),none,0⟩])
(.cond (.t 26) (.seq (.reg [⟨(some 27),(.q (.mv (.t 7))),none,0⟩,
⟨(some 4),(.q (.mv (.c .nilsl))),none,0⟩,
⟨(some 5),(.q (.mv (.t 27))),none,0⟩])
.ret) .skip)))
(.seq (.reg [⟨(some 28),(.q (.mv (.t 1))),none,0⟩,
⟨(some 29),(.q (.lenSl (.t 28))),none,0⟩,
⟨(some 30),(.a (.mkSlice 3 1 8 [(.int .i64 (.ofNat 0))] (.t 29) (.t 29))),none,0⟩,
⟨(some 8),(.q (.mv (.t 30))),none,0⟩])
(.seq (.seq (.reg [⟨(some 31),(.q (.mv (.t 1))),none,0⟩,
⟨(some 32),(.q (.lenSl (.t 31))),none,0⟩,
⟨(some 33),(.q (.mv (.c (.int .i64 (.ofNat 0))))),none,0⟩])
(.block 0 (.loop (.seq (.reg [⟨(some 34),(.q (.bin .lss (.p .int) (.t 33) (.t 32))),none,0⟩])
(.seq (.cond (.t 34) .skip (.exit 0))
(.seq (.block 1 (.seq (.reg [⟨(some 35),(.q (.mv (.t 33))),none,0⟩,
⟨(some 36),(.q (.iaddr (.slice 1) (.t 31) (.t 33))),none,0⟩,
⟨(some 37),(.q (.ld false 1 (.t 36))),none,0⟩,
⟨(some 9),(.q (.mv (.t 35))),none,0⟩,
⟨(some 10),(.q (.mv (.t 37))),none,0⟩])
(.reg [⟨(some 38),(.q (.mv (.t 8))),none,0⟩,
⟨(some 39),(.q (.mv (.t 10))),none,0⟩,
⟨(some 40),(.q (.mv (.t 9))),none,0⟩,
⟨(some 41),(.q (.iaddr (.slice 1) (.t 38) (.t 39))),none,0⟩,
⟨none,(.x (.st 1 (.t 41) (.t 40))),none,0⟩])))
(.reg [⟨(some 42),(.q (.bin .add (.p .int) (.t 33) (.c (.int .i64 (.ofNat 1))))),none,0⟩,
⟨(some 33),(.q (.mv (.t 42))),none,0⟩])))))))
(.seq (.reg [⟨(some 43),(.q (.mv (.t 8))),none,0⟩,
⟨(some 4),(.q (.mv (.t 43))),none,0⟩,
⟨(some 5),(.q (.mv (.c (.int .i64 (.ofNat 0))))),none,0⟩])
.ret)))))))⟩
theorem row13 : Row Try.prog (13, a13) := ⟨Try.f13, Try.func13, by kernel_rfl⟩
noncomputable def a14 : AFn :=
⟨26,[(.t 4)],(.seq (.reg [⟨(some 4),(.q (.mv (.c (.bool false)))),none,0⟩])
(.seq (.seq (.reg [⟨(some 6),(.q (.mv (.t 0))),none,0⟩,
⟨(some 7),(.q (.lenSl (.t 6))),none,0⟩,
⟨(some 8),(.q (.mv (.t 1))),none,0⟩,
⟨(some 9),(.q (.lenSl (.t 8))),none,0⟩,
⟨(some 10),(.q (.bin .neq (.p .int) (.t 7) (.t 9))),none,0⟩])
(.cond (.t 10) (.seq (.reg [⟨(some 4),(.q (.mv (.c (.bool false)))),none,0⟩])
.ret) .skip))
(.seq (.seq (.reg [⟨(some 5),(.q (.mv (.c (.int .i64 (.ofNat 0))))),none,0⟩])
(.block 0 (.loop (.seq (.seq (.reg [⟨(some 11),(.q (.mv (.t 5))),none,0⟩,
⟨(some 12),(.q (.mv (.t 0))),none,0⟩,
⟨(some 13),(.q (.lenSl (.t 12))),none,0⟩,
⟨(some 14),(.q (.bin .lss (.p .int) (.t 11) (.t 13))),none,0⟩])
(.cond (.t 14) .skip (.exit 0)))
(.seq (.block 1 (.seq (.drw [⟨(some 17),(.q (.mv (.t 0))),none,0⟩,
⟨(some 18),(.q (.mv (.t 5))),none,0⟩,
⟨(some 19),(.q (.iaddr (.slice 1) (.t 17) (.t 18))),none,3⟩,
⟨(some 20),(.q (.ld false 1 (.t 19))),none,7⟩,
⟨(some 21),(.q (.mv (.t 1))),none,0⟩,
⟨(some 22),(.q (.mv (.t 5))),none,0⟩,
⟨(some 23),(.q (.iaddr (.slice 1) (.t 21) (.t 22))),none,48⟩,
⟨(some 24),(.q (.ld false 1 (.t 23))),none,112⟩,
⟨(some 25),(.q (.bin .neq (.p .int) (.t 20) (.t 24))),none,255⟩])
(.cond (.t 25) (.seq (.reg [⟨(some 4),(.q (.mv (.c (.bool false)))),none,0⟩])
.ret) .skip)))
(.reg [⟨(some 15),(.q (.mv (.t 5))),none,0⟩,
⟨(some 16),(.q (.bin .add (.p .int) (.t 15) (.c (.int .i64 (.ofNat 1))))),none,0⟩,
⟨(some 5),(.q (.mv (.t 16))),none,0⟩]))))))
(.seq (.reg [⟨(some 4),(.q (.mv (.c (.bool true)))),none,0⟩])
.ret))))⟩
theorem row14 : Row Try.prog (14, a14) := ⟨Try.f14, Try.func14, by kernel_rfl⟩
noncomputable def a15 : AFn :=
⟨22,[(.t 4)],(.seq (.reg [⟨(some 2),(.a (.box 28 (.t 0))),none,0⟩,
⟨(some 4),(.q (.mv (.c (.int .i64 (.ofNat 0))))),none,0⟩])
(.seq (.reg [⟨(some 8),(.q (.ld true 3 (.t 2))),none,0⟩,
⟨(some 9),(.x (.call (.c (.fn 37 [] [])) [(.t 8)])),none,0⟩,
⟨(some 7),(.q (.mv (.t 9))),none,0⟩,
⟨(some 10),(.q (.extract (.t 7) 0)),none,0⟩,
⟨(some 11),(.q (.extract (.t 7) 1)),none,0⟩,
⟨(some 5),(.q (.mv (.t 10))),none,0⟩,
⟨(some 6),(.q (.mv (.t 11))),none,0⟩])
(.seq (.seq (.reg [⟨(some 12),(.q (.mv (.t 6))),none,0⟩,
⟨(some 13),(.q (.bin .neq (.p .int) (.t 12) (.c (.int .i64 (.ofNat 0))))),none,0⟩])
(.cond (.t 13) (.seq (.reg [⟨(some 14),(.q (.mv (.t 6))),none,0⟩,
⟨(some 4),(.q (.mv (.t 14))),none,0⟩])
.ret) .skip))
(.seq (.reg [⟨(some 16),(.q (.mv (.t 5))),none,0⟩,
⟨(some 17),(.q (.mv (.t 1))),none,0⟩,
⟨(some 18),(.x (.call (.c (.fn 38 [] [])) [(.t 16),(.t 17)])),none,0⟩,
⟨(some 15),(.q (.mv (.t 18))),none,0⟩,
⟨(some 19),(.q (.extract (.t 15) 0)),none,0⟩,
⟨(some 20),(.q (.extract (.t 15) 1)),none,0⟩,
⟨(some 6),(.q (.mv (.t 20))),none,0⟩])
(.seq (.reg [⟨(some 21),(.q (.mv (.t 6))),none,0⟩,
⟨(some 4),(.q (.mv (.t 21))),none,0⟩])
.ret)))))⟩
theorem row15 : Row Try.prog (15, a15) := ⟨Try.f15, Try.func15, by kernel_rfl⟩
noncomputable def a25 : AFn :=
⟨27,[(.t 4)],(.seq (.reg [⟨(some 4),(.q (.mv (.c (.bool false)))),none,0⟩])
(.seq (.seq (.reg [⟨(some 6),(.q (.mv (.t 0))),none,0⟩,
⟨(some 7),(.q (.lenSl (.t 6))),none,0⟩,
⟨(some 8),(.q (.mv (.t 1))),none,0⟩,
⟨(some 9),(.q (.lenSl (.t 8))),none,0⟩,
⟨(some 10),(.q (.bin .neq (.p .int) (.t 7) (.t 9))),none,0⟩])
(.cond (.t 10) (.seq (.reg [⟨(some 4),(.q (.mv (.c (.bool false)))),none,0⟩])
.ret) .skip))
(.seq (.seq (.reg [⟨(some 5),(.q (.mv (.c (.int .i64 (.ofNat 0))))),none,0⟩])
(.block 0 (.loop (.seq (.seq (.reg [⟨(some 11),(.q (.mv (.t 5))),none,0⟩,
⟨(some 12),(.q (.mv (.t 0))),none,0⟩,
⟨(some 13),(.q (.lenSl (.t 12))),none,0⟩,
⟨(some 14),(.q (.bin .lss (.p .int) (.t 11) (.t 13))),none,0⟩])
(.cond (.t 14) .skip (.exit 0)))
(.seq (.block 1 (.seq (.drw [⟨(some 17),(.q (.mv (.t 0))),none,0⟩,
⟨(some 18),(.q (.mv (.t 5))),none,0⟩,
⟨(some 19),(.q (.iaddr (.slice 1) (.t 17) (.t 18))),none,3⟩,
⟨(some 20),(.q (.ld false 1 (.t 19))),none,7⟩,
⟨(some 21),(.q (.mv (.t 1))),none,0⟩,
⟨(some 22),(.q (.mv (.t 5))),none,0⟩,
⟨(some 23),(.q (.iaddr (.slice 1) (.t 21) (.t 22))),none,48⟩,
⟨(some 24),(.q (.ld false 1 (.t 23))),none,112⟩,
⟨(some 25),(.x (.call (.c (.fn 14 [] [])) [(.t 20),(.t 24)])),none,255⟩,
⟨(some 26),(.q (.un .not (.t 25))),none,511⟩])
(.cond (.t 26) (.seq (.reg [⟨(some 4),(.q (.mv (.c (.bool false)))),none,0⟩])
.ret) .skip)))
(.reg [⟨(some 15),(.q (.mv (.t 5))),none,0⟩,
⟨(some 16),(.q (.bin .add (.p .int) (.t 15) (.c (.int .i64 (.ofNat 1))))),none,0⟩,
⟨(some 5),(.q (.mv (.t 16))),none,0⟩]))))))
(.seq (.reg [⟨(some 4),(.q (.mv (.c (.bool true)))),none,0⟩])
.ret))))⟩
theorem row25 : Row Try.prog (25, a25) := ⟨Try.f25, Try.func25, by kernel_rfl⟩
noncomputable def a26 : AFn :=
⟨94,[(.t 2),(.t 3)],(.seq (.reg [⟨(some 1),(.a (.box 28 (.t 0))),none,0⟩,
⟨(some 2),(.q (.mv (.c .nilsl))),none,0⟩,
⟨(some 3),(.q (.mv (.c (.int .i64 (.ofNat 0))))),none,0⟩])
(.seq (.reg [⟨(some 16),(.q (.ld true 3 (.t 1))),none,0⟩,
⟨(some 17),(.x (.call (.c (.fn 37 [] [])) [(.t 16)])),none,0⟩,
⟨(some 15),(.q (.mv (.t 17))),none,0⟩,
⟨(some 18),(.q (.extract (.t 15) 0)),none,0⟩,
⟨(some 19),(.q (.extract (.t 15) 1)),none,0⟩,
⟨(some 4),(.q (.mv (.t 18))),none,0⟩,
⟨(some 5),(.q (.mv (.t 19))),none,0⟩])
(.seq (.seq (.reg [⟨(some 20),(.q (.mv (.t 5))),none,0⟩,
⟨(some 21),(.q (.bin .neq (.p .int) (.t 20) (.c (.int .i64 (.ofNat 0))))),none,0⟩])
(.cond (.t 21) (.seq (.reg [⟨(some 22),(.q (.mv (.t 5))),none,0⟩,
⟨(some 2),(.q (.mv (.c .nilsl))),none,0⟩,
⟨(some 3),(.q (.mv (.t 22))),none,0⟩])
.ret) .skip))
(.seq (.reg [⟨(some 6),(.q (.mv (.c .nilsl))),none,0⟩])
(.seq (.seq (.reg [⟨(some 23),(.q (.faddr 1 (.t 1))),none,0⟩,
⟨(some 24),(.q (.ld false 1 (.t 23))),none,0⟩,
⟨(some 25),(.q (.lenSl (.t 24))),none,0⟩,
⟨(some 26),(.q (.mv (.c (.int .i64 (.ofNat 0))))),none,0⟩])
(.block 0 (.loop (.seq (.reg [⟨(some 27),(.q (.bin .lss (.p .int) (.t 26) (.t 25))),none,0⟩])
(.seq (.cond (.t 27) .skip (.exit 0))
(.seq (.block 1 (.seq (.reg [⟨(some 28),(.q (.iaddr (.slice 6) (.t 24) (.t 26))),none,0⟩,
⟨(some 29),(.q (.ld true 6 (.t 28))),none,0⟩,
⟨(some 8),(.a (.alloc 74 [(.int .i64 (.ofNat 0)),(.int .i64 (.ofNat 0)),(.int .i64 (.ofNat 0)),.nilsl,.nilsl,.nilsl])),none,0⟩,
⟨none,(.x (.st 6 (.t 8) (.t 29))),none,0⟩])
(.seq (.seq (.reg [⟨(some 30),(.q (.faddr 0 (.t 8))),none,0⟩,
⟨(some 31),(.q (.ld false 1 (.t 30))),none,0⟩,
⟨(some 32),(.q (.bin .neq (.p .int) (.t 31) (.c (.int .i64 (.ofNat 1))))),none,0⟩])
(.cond (.t 32) (.exit 1) .skip))
(.seq (.reg [⟨(some 33),(.q (.faddr 3 (.t 8))),none,0⟩,
⟨(some 34),(.q (.ld false 1 (.t 33))),none,0⟩,
⟨(some 35),(.q (.lenSl (.t 34))),none,0⟩,
⟨(some 36),(.q (.mv (.c (.int .i64 (.ofNat 0))))),none,0⟩])
(.block 2 (.loop (.seq (.reg [⟨(some 37),(.q (.bin .lss (.p .int) (.t 36) (.t 35))),none,0⟩])
(.seq (.cond (.t 37) .skip (.exit 2))
(.seq (.block 3 (.seq (.reg [⟨(some 38),(.q (.mv (.t 36))),none,0⟩,
⟨(some 39),(.q (.iaddr (.slice 1) (.t 34) (.t 36))),none,0⟩,
⟨(some 40),(.q (.ld false 1 (.t 39))),none,0⟩,
⟨(some 9),(.q (.mv (.t 38))),none,0⟩,
⟨(some 10),(.q (.mv (.t 40))),none,0⟩])
(.seq (.reg [⟨(some 41),(.q (.mv (.t 9))),none,0⟩,
⟨(some 42),(.q (.bin .add (.p .int) (.t 41) (.c (.int .i64 (.ofNat 1))))),none,0⟩,
⟨(some 11),(.q (.mv (.t 42))),none,0⟩])
(.block 4 (.loop (.seq (.seq (.reg [⟨(some 43),(.q (.mv (.t 11))),none,0⟩,
⟨(some 44),(.q (.faddr 3 (.t 8))),none,0⟩,
⟨(some 45),(.q (.ld false 1 (.t 44))),none,0⟩,
⟨(some 46),(.q (.lenSl (.t 45))),none,0⟩,
⟨(some 47),(.q (.bin .lss (.p .int) (.t 43) (.t 46))),none,0⟩])
(.cond (.t 47) .skip (.exit 4)))
(.seq (.block 5 (.seq (.seq (.drw [⟨(some 50),(.q (.faddr 4 (.t 8))),none,0⟩,
⟨(some 51),(.q (.ld false 1 (.t 50))),none,1⟩,
⟨(some 52),(.q (.mv (.t 9))),none,0⟩,
⟨(some 53),(.q (.iaddr (.slice 1) (.t 51) (.t 52))),none,7⟩,
⟨(some 54),(.q (.ld false 1 (.t 53))),none,15⟩,
⟨(some 55),(.q (.faddr 4 (.t 8))),none,0⟩,
⟨(some 56),(.q (.ld false 1 (.t 55))),none,32⟩,
⟨(some 57),(.q (.mv (.t 11))),none,0⟩,
⟨(some 58),(.q (.iaddr (.slice 1) (.t 56) (.t 57))),none,224⟩,
⟨(some 59),(.q (.ld false 1 (.t 58))),none,480⟩,
⟨(some 60),(.q (.bin .neq (.p .int) (.t 54) (.t 59))),none,1023⟩,
⟨(some 61),(.q (.mv (.t 60))),none,2047⟩,
⟨(some 62),(.q (.mv (.t 4))),(some (61,false)),4095⟩,
⟨(some 63),(.q (.mv (.t 10))),(some (61,false)),4095⟩,
⟨(some 64),(.q (.faddr 3 (.t 8))),(some (61,false)),4095⟩,
⟨(some 65),(.q (.ld false 1 (.t 64))),(some (61,false)),20479⟩,
⟨(some 66),(.q (.mv (.t 11))),(some (61,false)),4095⟩,
⟨(some 67),(.q (.iaddr (.slice 1) (.t 65) (.t 66))),(some (61,false)),118783⟩,
⟨(some 68),(.q (.ld false 1 (.t 67))),(some (61,false)),249855⟩,
⟨(some 69),(.x (.call (.c (.fn 46 [] [])) [(.t 62),(.t 63),(.t 68)])),(some (61,false)),524287⟩,
⟨(some 70),(.q (.un .not (.t 69))),(some (61,false)),1048575⟩,
⟨(some 71),(.q (.pick (.t 61) (.c (.bool true)) (.t 70))),none,2097151⟩])
(.cond (.t 71) (.exit 5) .skip))
(.seq (.reg [⟨(some 72),(.q (.mv (.t 4))),none,0⟩,
⟨(some 73),(.q (.mv (.t 10))),none,0⟩,
⟨(some 74),(.q (.faddr 3 (.t 8))),none,0⟩,
⟨(some 75),(.q (.ld false 1 (.t 74))),none,0⟩,
⟨(some 76),(.q (.mv (.t 11))),none,0⟩,
⟨(some 77),(.q (.iaddr (.slice 1) (.t 75) (.t 76))),none,0⟩,
⟨(some 78),(.q (.ld false 1 (.t 77))),none,0⟩,
⟨(some 79),(.x (.call (.c (.fn 47 [] [])) [(.t 72),(.t 73),(.t 78)])),none,0⟩,
⟨(some 12),(.q (.mv (.t 79))),none,0⟩])
(.seq (.reg [⟨(some 81),(.q (.mv (.t 4))),none,0⟩,
⟨(some 82),(.q (.mv (.t 12))),none,0⟩,
⟨(some 83),(.x (.call (.c (.fn 48 [] [])) [(.t 81),(.t 82)])),none,0⟩,
⟨(some 80),(.q (.mv (.t 83))),none,0⟩,
⟨(some 84),(.q (.extract (.t 80) 0)),none,0⟩,
⟨(some 85),(.q (.extract (.t 80) 1)),none,0⟩,
⟨(some 13),(.a (.alloc 68 [.nilsl,.nilsl])),none,0⟩,
⟨none,(.x (.st 2 (.t 13) (.t 84))),none,0⟩,
⟨(some 14),(.q (.mv (.t 85))),none,0⟩])
(.seq (.reg [⟨(some 86),(.q (.mv (.t 14))),none,0⟩])
(.cond (.t 86) (.reg [⟨(some 87),(.q (.mv (.t 6))),none,0⟩,
⟨(some 88),(.q (.mv (.t 12))),none,0⟩,
⟨(some 89),(.a (.bslice 22 1 1 [.nilsl] [(0,(.t 88))])),none,0⟩,
⟨(some 90),(.x (.app 22 1 24 (.t 87) (.t 89))),none,0⟩,
⟨(some 6),(.q (.mv (.t 90))),none,0⟩]) .skip))))))
(.reg [⟨(some 48),(.q (.mv (.t 11))),none,0⟩,
⟨(some 49),(.q (.bin .add (.p .int) (.t 48) (.c (.int .i64 (.ofNat 1))))),none,0⟩,
⟨(some 11),(.q (.mv (.t 49))),none,0⟩]))))))))
(.reg [⟨(some 91),(.q (.bin .add (.p .int) (.t 36) (.c (.int .i64 (.ofNat 1))))),none,0⟩,
⟨(some 36),(.q (.mv (.t 91))),none,0⟩]))))))))))
(.reg [⟨(some 92),(.q (.bin .add (.p .int) (.t 26) (.c (.int .i64 (.ofNat 1))))),none,0⟩,
⟨(some 26),(.q (.mv (.t 92))),none,0⟩])))))))
(.seq (.reg [⟨(some 93),(.q (.mv (.t 6))),none,0⟩,
⟨(some 2),(.q (.mv (.t 93))),none,0⟩,
⟨(some 3),(.q (.mv (.c (.int .i64 (.ofNat 0))))),none,0⟩])
.ret))))))⟩
theorem row26 : Row Try.prog (26, a26) := ⟨Try.f26, Try.func26, by kernel_rfl⟩
noncomputable def a28 : AFn :=
⟨52,[(.t 4),(.t 5),(.t 6)],(.seq (.reg [⟨(some 2),(.a (.box 28 (.t 0))),none,0⟩,
⟨(some 4),(.q (.mv (.c .nilsl))),none,0⟩,
⟨(some 5),(.q (.mv (.c .nilsl))),none,0⟩,
⟨(some 6),(.q (.mv (.c (.int .i64 (.ofNat 0))))),none,0⟩])
(.seq (.reg [⟨(some 14),(.q (.ld true 3 (.t 2))),none,0⟩,
⟨(some 15),(.x (.call (.c (.fn 37 [] [])) [(.t 14)])),none,0⟩,
⟨(some 13),(.q (.mv (.t 15))),none,0⟩,
⟨(some 16),(.q (.extract (.t 13) 0)),none,0⟩,
⟨(some 17),(.q (.extract (.t 13) 1)),none,0⟩,
⟨(some 7),(.q (.mv (.t 16))),none,0⟩,
⟨(some 8),(.q (.mv (.t 17))),none,0⟩])
(.seq (.seq (.reg [⟨(some 18),(.q (.mv (.t 8))),none,0⟩,
⟨(some 19),(.q (.bin .neq (.p .int) (.t 18) (.c (.int .i64 (.ofNat 0))))),none,0⟩])
(.cond (.t 19) (.seq (.reg [⟨(some 20),(.q (.mv (.t 8))),none,0⟩,
⟨(some 4),(.q (.mv (.c .nilsl))),none,0⟩,
⟨(some 5),(.q (.mv (.c .nilsl))),none,0⟩,
⟨(some 6),(.q (.mv (.t 20))),none,0⟩])
.ret) .skip))
(.seq (.reg [⟨(some 22),(.q (.mv (.t 7))),none,0⟩,
⟨(some 23),(.q (.mv (.t 1))),none,0⟩,
⟨(some 24),(.x (.call (.c (.fn 51 [] [])) [(.t 22),(.t 23)])),none,0⟩,
⟨(some 21),(.q (.mv (.t 24))),none,0⟩,
⟨(some 25),(.q (.extract (.t 21) 0)),none,0⟩,
⟨(some 26),(.q (.extract (.t 21) 1)),none,0⟩,
⟨(some 9),(.q (.mv (.t 25))),none,0⟩,
⟨(some 8),(.q (.mv (.t 26))),none,0⟩])
(.seq (.seq (.reg [⟨(some 27),(.q (.mv (.t 8))),none,0⟩,
⟨(some 28),(.q (.bin .neq (.p .int) (.t 27) (.c (.int .i64 (.ofNat 0))))),none,0⟩])
(.cond (.t 28) (.seq (.reg [⟨(some 29),(.q (.mv (.t 8))),none,0⟩,
⟨(some 4),(.q (.mv (.c .nilsl))),none,0⟩,
⟨(some 5),(.q (.mv (.c .nilsl))),none,0⟩,
⟨(some 6),(.q (.mv (.t 29))),none,0⟩])
.ret) .skip))
(.seq (.reg [⟨(some 10),(.q (.mv (.c .nilsl))),none,0⟩])
(.seq (.seq (.reg [⟨(some 30),(.q (.mv (.t 9))),none,0⟩,
⟨(some 31),(.q (.lenSl (.t 30))),none,0⟩,
⟨(some 32),(.q (.mv (.c (.int .i64 (.ofNat 0))))),none,0⟩])
(.block 0 (.loop (.seq (.reg [⟨(some 33),(.q (.bin .lss (.p .int) (.t 32) (.t 31))),none,0⟩])
(.seq (.cond (.t 33) .skip (.exit 0))
(.seq (.block 1 (.seq (.reg [⟨(some 34),(.q (.iaddr (.slice 2) (.t 30) (.t 32))),none,0⟩,
⟨(some 35),(.q (.ld true 2 (.t 34))),none,0⟩,
⟨(some 12),(.a (.alloc 68 [.nilsl,.nilsl])),none,0⟩,
⟨none,(.x (.st 2 (.t 12) (.t 35))),none,0⟩])
(.reg [⟨(some 36),(.q (.mv (.t 10))),none,0⟩,
⟨(some 37),(.q (.faddr 0 (.t 12))),none,0⟩,
⟨(some 38),(.q (.ld false 1 (.t 37))),none,0⟩,
⟨(some 39),(.a (.bslice 22 1 1 [.nilsl] [(0,(.t 38))])),none,0⟩,
⟨(some 40),(.x (.app 22 1 24 (.t 36) (.t 39))),none,0⟩,
⟨(some 10),(.q (.mv (.t 40))),none,0⟩])))
(.reg [⟨(some 41),(.q (.bin .add (.p .int) (.t 32) (.c (.int .i64 (.ofNat 1))))),none,0⟩,
⟨(some 32),(.q (.mv (.t 41))),none,0⟩])))))))
(.seq (.drw [⟨(some 42),(.q (.faddr 1 (.t 2))),none,0⟩,
⟨(some 43),(.q (.ld false 1 (.t 42))),none,1⟩,
⟨(some 44),(.q (.lenSl (.t 43))),none,3⟩,
⟨(some 45),(.q (.mv (.t 1))),none,0⟩,
⟨(some 46),(.x (.call (.c (.fn 52 [] [])) [(.t 44),(.t 45)])),none,15⟩,
⟨(some 47),(.q (.faddr 2 (.t 2))),none,0⟩,
⟨(some 48),(.q (.ld false 1 (.t 47))),none,32⟩,
⟨(some 49),(.q (.lenSl (.t 48))),none,96⟩,
⟨(some 50),(.q (.mv (.t 10))),none,0⟩,
⟨(some 51),(.x (.call (.c (.fn 52 [] [])) [(.t 49),(.t 50)])),none,511⟩,
⟨(some 4),(.q (.mv (.t 46))),none,1023⟩,
⟨(some 5),(.q (.mv (.t 51))),none,2047⟩,
⟨(some 6),(.q (.mv (.c (.int .i64 (.ofNat 0))))),none,4095⟩])
.ret))))))))⟩
theorem row28 : Row Try.prog (28, a28) := ⟨Try.f28, Try.func28, by kernel_rfl⟩
noncomputable def a31 : AFn :=
⟨77,[(.t 4),(.t 5)],(.seq (.reg [⟨(some 2),(.a (.box 28 (.t 0))),none,0⟩,
⟨(some 4),(.q (.mv (.c .nilsl))),none,0⟩,
⟨(some 5),(.q (.mv (.c (.int .i64 (.ofNat 0))))),none,0⟩])
(.seq (.reg [⟨(some 16),(.q (.ld true 3 (.t 2))),none,0⟩,
⟨(some 17),(.x (.call (.c (.fn 37 [] [])) [(.t 16)])),none,0⟩,
⟨(some 15),(.q (.mv (.t 17))),none,0⟩,
⟨(some 18),(.q (.extract (.t 15) 0)),none,0⟩,
⟨(some 19),(.q (.extract (.t 15) 1)),none,0⟩,
⟨(some 6),(.q (.mv (.t 18))),none,0⟩,
⟨(some 7),(.q (.mv (.t 19))),none,0⟩])
(.seq (.seq (.reg [⟨(some 20),(.q (.mv (.t 7))),none,0⟩,
⟨(some 21),(.q (.bin .neq (.p .int) (.t 20) (.c (.int .i64 (.ofNat 0))))),none,0⟩])
(.cond (.t 21) (.seq (.reg [⟨(some 22),(.q (.mv (.t 7))),none,0⟩,
⟨(some 4),(.q (.mv (.c .nilsl))),none,0⟩,
⟨(some 5),(.q (.mv (.t 22))),none,0⟩])
.ret) .skip))
(.seq (.seq (.reg [⟨(some 24),(.q (.mv (.t 6))),none,0⟩,
⟨(some 25),(.q (.mv (.t 1))),none,0⟩,
⟨(some 26),(.x (.call (.c (.fn 51 [] [])) [(.t 24),(.t 25)])),none,0⟩,
⟨(some 23),(.q (.mv (.t 26))),none,0⟩,
⟨(some 27),(.q (.extract (.t 23) 0)),none,0⟩,
⟨(some 28),(.q (.extract (.t 23) 1)),none,0⟩,
⟨(some 7),(.q (.mv (.t 28))),none,0⟩])
(.seq (.reg [⟨(some 29),(.q (.mv (.t 7))),none,0⟩,
⟨(some 30),(.q (.bin .neq (.p .int) (.t 29) (.c (.int .i64 (.ofNat 0))))),none,0⟩])
(.cond (.t 30) (.seq (.reg [⟨(some 31),(.q (.mv (.t 7))),none,0⟩,
⟨(some 4),(.q (.mv (.c .nilsl))),none,0⟩,
⟨(some 5),(.q (.mv (.t 31))),none,0⟩])
.ret) .skip)))
(.seq (.reg [⟨(some 32),(.q (.mv (.t 6))),none,0⟩,
⟨(some 33),(.x (.call (.c (.fn 56 [] [])) [(.t 32)])),none,0⟩,
⟨(some 34),(.a (.bslice 22 1 1 [.nilsl] [(0,(.t 33))])),none,0⟩,
⟨(some 8),(.q (.mv (.t 34))),none,0⟩])
(.seq (.reg [⟨(some 35),(.a (.mkMap)),none,0⟩,
⟨(some 36),(.q (.mv (.t 8))),none,0⟩,
⟨(some 37),(.q (.iaddr (.slice 1) (.t 36) (.c (.int .i64 (.ofNat 0))))),none,0⟩,
⟨(some 38),(.q (.ld false 1 (.t 37))),none,0⟩,
⟨(some 39),(.x (.call (.c (.fn 57 [] [])) [(.t 38)])),none,0⟩,
⟨none,(.x (.mapUpd (.p .str) (.t 35) (.t 39) (.c (.bool true)))),none,0⟩,
⟨(some 40),(.q (.mv (.t 35))),none,0⟩,
⟨(some 9),(.q (.mv (.t 40))),none,0⟩])
(.seq (.seq (.reg [⟨(some 10),(.q (.mv (.c (.int .i64 (.ofNat 0))))),none,0⟩])
(.block 0 (.loop (.seq (.seq (.reg [⟨(some 41),(.q (.mv (.t 10))),none,0⟩,
⟨(some 42),(.q (.mv (.t 8))),none,0⟩,
⟨(some 43),(.q (.lenSl (.t 42))),none,0⟩,
⟨(some 44),(.q (.bin .lss (.p .int) (.t 41) (.t 43))),none,0⟩])
(.cond (.t 44) .skip (.exit 0)))
(.seq (.block 1 (.seq (.reg [⟨(some 47),(.q (.mv (.t 1))),none,0⟩,
⟨(some 48),(.q (.lenSl (.t 47))),none,0⟩,
⟨(some 49),(.q (.mv (.c (.int .i64 (.ofNat 0))))),none,0⟩])
(.block 2 (.loop (.seq (.reg [⟨(some 50),(.q (.bin .lss (.p .int) (.t 49) (.t 48))),none,0⟩])
(.seq (.cond (.t 50) .skip (.exit 2))
(.seq (.block 3 (.seq (.reg [⟨(some 51),(.q (.iaddr (.slice 1) (.t 47) (.t 49))),none,0⟩,
⟨(some 52),(.q (.ld false 1 (.t 51))),none,0⟩,
⟨(some 12),(.q (.mv (.t 52))),none,0⟩])
(.seq (.reg [⟨(some 53),(.q (.mv (.t 8))),none,0⟩,
⟨(some 54),(.q (.mv (.t 10))),none,0⟩,
⟨(some 55),(.q (.iaddr (.slice 1) (.t 53) (.t 54))),none,0⟩,
⟨(some 56),(.q (.ld false 1 (.t 55))),none,0⟩,
⟨(some 57),(.q (.mv (.t 12))),none,0⟩,
⟨(some 58),(.x (.call (.c (.fn 39 [] [])) [(.t 56),(.t 57)])),none,0⟩,
⟨(some 13),(.q (.mv (.t 58))),none,0⟩])
(.seq (.reg [⟨(some 59),(.q (.mv (.t 13))),none,0⟩,
⟨(some 60),(.x (.call (.c (.fn 57 [] [])) [(.t 59)])),none,0⟩,
⟨(some 14),(.q (.mv (.t 60))),none,0⟩])
(.seq (.seq (.reg [⟨(some 61),(.q (.mv (.t 9))),none,0⟩,
⟨(some 62),(.q (.mv (.t 14))),none,0⟩,
⟨(some 63),(.q (.lookup (.p .str) (.bool false) false (.t 61) (.t 62))),none,0⟩])
(.cond (.t 63) (.exit 3) .skip))
(.seq (.seq (.reg [⟨(some 64),(.q (.mv (.t 8))),none,0⟩,
⟨(some 65),(.q (.lenSl (.t 64))),none,0⟩,
⟨(some 66),(.q (.bin .eql (.p .int) (.t 65) (.c (.int .i64 (.ofNat 1000))))),none,0⟩])
(.cond (.t 66) (.seq (.reg [⟨(some 4),(.q (.mv (.c .nilsl))),none,0⟩,
⟨(some 5),(.q (.mv (.c (.int .i64 (.ofNat 5))))),none,0⟩])
.ret) .skip))
(.seq (.reg [⟨(some 67),(.q (.mv (.t 9))),none,0⟩,
⟨(some 68),(.q (.mv (.t 14))),none,0⟩,
⟨none,(.x (.mapUpd (.p .str) (.t 67) (.t 68) (.c (.bool true)))),none,0⟩])
(.reg [⟨(some 69),(.q (.mv (.t 8))),none,0⟩,
⟨(some 70),(.q (.mv (.t 13))),none,0⟩,
⟨(some 71),(.a (.bslice 22 1 1 [.nilsl] [(0,(.t 70))])),none,0⟩,
⟨(some 72),(.x (.app 22 1 24 (.t 69) (.t 71))),none,0⟩,
⟨(some 8),(.q (.mv (.t 72))),none,0⟩]))))))))
(.reg [⟨(some 73),(.q (.bin .add (.p .int) (.t 49) (.c (.int .i64 (.ofNat 1))))),none,0⟩,
⟨(some 49),(.q (.mv (.t 73))),none,0⟩]))))))))
(.reg [⟨(some 45),(.q (.mv (.t 10))),none,0⟩,
⟨(some 46),(.q (.bin .add (.p .int) (.t 45) (.c (.int .i64 (.ofNat 1))))),none,0⟩,
⟨(some 10),(.q (.mv (.t 46))),none,0⟩]))))))
(.seq (.reg [⟨(some 74),(.q (.mv (.t 8))),none,0⟩,
⟨(some 75),(.x (.call (.c (.fn 58 [] [])) [(.t 74),(.c (.fn 59 [] []))])),none,0⟩])
(.seq (.reg [⟨(some 76),(.q (.mv (.t 8))),none,0⟩,
⟨(some 4),(.q (.mv (.t 76))),none,0⟩,
⟨(some 5),(.q (.mv (.c (.int .i64 (.ofNat 0))))),none,0⟩])
.ret)))))))))⟩
theorem row31 : Row Try.prog (31, a31) := ⟨Try.f31, Try.func31, by kernel_rfl⟩
noncomputable def a33 : AFn :=
⟨9,[(.cell 0 true 3)],(.seq (.reg [⟨(some 0),(.a (.alloc 28 [(.int .i64 (.ofNat 0)),.nilsl,.nilsl])),none,0⟩])
(.seq (.reg [⟨(some 1),(.a (.bslice 3 1 3 [(.int .i64 (.ofNat 0))] [(0,(.c (.int .i64 (.ofNat 1)))),(1,(.c (.int .i64 (.ofNat 1)))),(2,(.c (.int .i64 (.ofNat 1))))])),none,0⟩,
⟨(some 2),(.a (.bslice 3 1 3 [(.int .i64 (.ofNat 0))] [(0,(.c (.int .i64 (.ofNat 1)))),(1,(.c (.int .i64 (.ofNat 2)))),(2,(.c (.int .i64 (.ofNat 3))))])),none,0⟩,
⟨(some 3),(.x (.call (.c (.fn 60 [] [])) [(.t 1),(.t 2)])),none,0⟩,
⟨(some 4),(.x (.call (.c (.fn 61 [] [])) [(.c (.int .i64 (.ofNat 5)))])),none,0⟩,
⟨(some 5),(.x (.call (.c (.fn 61 [] [])) [(.c (.int .i64 (.ofNat 7)))])),none,0⟩,
⟨(some 6),(.x (.call (.c (.fn 61 [] [])) [(.c (.int .i64 (.ofNat 5)))])),none,0⟩,
⟨(some 7),(.a (.bslice 74 6 4 [(.int .i64 (.ofNat 0)),(.int .i64 (.ofNat 0)),(.int .i64 (.ofNat 0)),.nilsl,.nilsl,.nilsl] [(0,(.t 3)),(1,(.t 4)),(2,(.t 5)),(3,(.t 6))])),none,0⟩,
⟨(some 8),(.q (.build [(.int .i64 (.ofNat 0)),.nilsl,.nilsl] [(0,1,(.c (.int .i64 (.ofNat 1)))),(1,1,(.t 7))])),none,0⟩,
⟨none,(.x (.st 3 (.t 0) (.t 8))),none,0⟩])
.ret))⟩
theorem row33 : Row Try.prog (33, a33) := ⟨Try.f33, Try.func33, by kernel_rfl⟩
noncomputable def a34 : AFn :=
⟨19,[(.cell 0 true 3)],(.seq (.reg [⟨(some 0),(.a (.alloc 28 [(.int .i64 (.ofNat 0)),.nilsl,.nilsl])),none,0⟩])
(.seq (.reg [⟨(some 2),(.a (.bslice 3 1 2 [(.int .i64 (.ofNat 0))] [(0,(.c (.int .i64 (.ofNat 1)))),(1,(.c (.int .i64 (.ofNat 2))))])),none,0⟩,
⟨(some 1),(.q (.mv (.t 2))),none,0⟩])
(.seq (.reg [⟨(some 3),(.a (.bslice 3 1 3 [(.int .i64 (.ofNat 0))] [(0,(.c (.int .i64 (.ofNat 1)))),(1,(.c (.int .i64 (.ofNat 1)))),(2,(.c (.int .i64 (.ofNat 2))))])),none,0⟩,
⟨(some 4),(.a (.bslice 3 1 3 [(.int .i64 (.ofNat 0))] [(0,(.c (.int .i64 (.ofNat 1)))),(1,(.c (.int .i64 (.ofNat 4)))),(2,(.c (.int .i64 (.ofNat 7))))])),none,0⟩,
⟨(some 5),(.x (.call (.c (.fn 60 [] [])) [(.t 3),(.t 4)])),none,0⟩,
⟨(some 6),(.q (.mv (.t 1))),none,0⟩,
⟨(some 7),(.a (.bslice 3 1 2 [(.int .i64 (.ofNat 0))] [(0,(.c (.int .i64 (.ofNat 2)))),(1,(.c (.int .i64 (.ofNat 3))))])),none,0⟩,
⟨(some 8),(.x (.call (.c (.fn 60 [] [])) [(.t 6),(.t 7)])),none,0⟩,
⟨(some 9),(.x (.call (.c (.fn 61 [] [])) [(.c (.int .i64 (.ofNat 1)))])),none,0⟩,
⟨(some 10),(.x (.call (.c (.fn 61 [] [])) [(.c (.int .i64 (.ofNat 2)))])),none,0⟩,
⟨(some 11),(.q (.mv (.t 1))),none,0⟩,
⟨(some 12),(.a (.bslice 3 1 2 [(.int .i64 (.ofNat 0))] [(0,(.c (.int .i64 (.ofNat 5)))),(1,(.c (.int .i64 (.ofNat 6))))])),none,0⟩,
⟨(some 13),(.x (.call (.c (.fn 60 [] [])) [(.t 11),(.t 12)])),none,0⟩,
⟨(some 14),(.x (.call (.c (.fn 61 [] [])) [(.c (.int .i64 (.ofNat 1)))])),none,0⟩,
⟨(some 15),(.x (.call (.c (.fn 61 [] [])) [(.c (.int .i64 (.ofNat 2)))])),none,0⟩,
⟨(some 16),(.x (.call (.c (.fn 61 [] [])) [(.c (.int .i64 (.ofNat 9)))])),none,0⟩,
⟨(some 17),(.a (.bslice 74 6 8 [(.int .i64 (.ofNat 0)),(.int .i64 (.ofNat 0)),(.int .i64 (.ofNat 0)),.nilsl,.nilsl,.nilsl] [(0,(.t 5)),(1,(.t 8)),(2,(.t 9)),(3,(.t 10)),(4,(.t 13)),(5,(.t 14)),(6,(.t 15)),(7,(.t 16))])),none,0⟩,
⟨(some 18),(.q (.build [(.int .i64 (.ofNat 0)),.nilsl,.nilsl] [(0,1,(.c (.int .i64 (.ofNat 1)))),(1,1,(.t 17))])),none,0⟩,
⟨none,(.x (.st 3 (.t 0) (.t 18))),none,0⟩])
.ret)))⟩
theorem row34 : Row Try.prog (34, a34) := ⟨Try.f34, Try.func34, by kernel_rfl⟩
noncomputable def a35 : AFn :=
⟨2,[(.t 0)],(.seq (.reg [⟨(some 0),(.q (.mv (.c .nilsl))),none,0⟩])
(.seq (.reg [⟨(some 1),(.a (.bslice 3 1 8 [(.int .i64 (.ofNat 0))] [(0,(.c (.int .i64 (.ofNat 0)))),(1,(.c (.int .i64 (.ofNat 4)))),(2,(.c (.int .i64 (.ofNat 5)))),(3,(.c (.int .i64 (.ofNat 6)))),(4,(.c (.int .i64 (.ofNat 1)))),(5,(.c (.int .i64 (.ofNat 2)))),(6,(.c (.int .i64 (.ofNat 3)))),(7,(.c (.int .i64 (.ofNat 7))))])),none,0⟩,
⟨(some 0),(.q (.mv (.t 1))),none,0⟩])
.ret))⟩
theorem row35 : Row Try.prog (35, a35) := ⟨Try.f35, Try.func35, by kernel_rfl⟩
noncomputable def a37 : AFn :=
⟨87,[(.t 2),(.t 3)],(.seq (.reg [⟨(some 1),(.a (.box 28 (.t 0))),none,0⟩,
⟨(some 2),(.q (.mv (.c .nilp))),none,0⟩,
⟨(some 3),(.q (.mv (.c (.int .i64 (.ofNat 0))))),none,0⟩])
(.seq (.reg [⟨(some 12),(.q (.ld true 3 (.t 1))),none,0⟩,
⟨(some 13),(.x (.call (.c (.fn 64 [] [])) [(.t 12)])),none,0⟩,
⟨(some 11),(.q (.mv (.t 13))),none,0⟩,
⟨(some 14),(.q (.extract (.t 11) 0)),none,0⟩,
⟨(some 15),(.q (.extract (.t 11) 1)),none,0⟩,
⟨(some 4),(.q (.mv (.t 14))),none,0⟩,
⟨(some 5),(.q (.mv (.t 15))),none,0⟩])
(.seq (.seq (.reg [⟨(some 16),(.q (.mv (.t 5))),none,0⟩,
⟨(some 17),(.q (.bin .neq (.p .int) (.t 16) (.c (.int .i64 (.ofNat 0))))),none,0⟩])
(.cond (.t 17) (.seq (.reg [⟨(some 18),(.q (.mv (.t 5))),none,0⟩,
⟨(some 2),(.q (.mv (.c .nilp))),none,0⟩,
⟨(some 3),(.q (.mv (.t 18))),none,0⟩])
.ret) .skip))
(.seq (.reg [⟨(some 19),(.q (.faddr 1 (.t 1))),none,0⟩,
⟨(some 20),(.q (.ld false 1 (.t 19))),none,0⟩,
⟨(some 21),(.q (.lenSl (.t 20))),none,0⟩,
⟨(some 6),(.q (.mv (.t 21))),none,0⟩])
(.seq (.drw [⟨(some 22),(.q (.ld true 3 (.t 1))),none,0⟩,
⟨(some 23),(.q (.mv (.t 4))),none,0⟩,
⟨(some 24),(.q (.mv (.t 6))),none,0⟩,
⟨(some 25),(.a (.mkSlice 3 1 8 [(.int .i64 (.ofNat 0))] (.t 24) (.t 24))),none,4⟩,
⟨(some 26),(.q (.mv (.t 6))),none,0⟩,
⟨(some 27),(.a (.mkSlice 3 1 8 [(.int .i64 (.ofNat 0))] (.t 26) (.t 26))),none,16⟩,
⟨(some 28),(.q (.build [(.int .i64 (.ofNat 0)),.nilsl,.nilsl,.nilsl,.nilsl,.nilsl] [(0,3,(.t 22)),(3,1,(.t 23)),(4,1,(.t 25)),(5,1,(.t 27))])),none,63⟩,
⟨(some 29),(.a (.box 99 (.t 28))),none,127⟩,
⟨(some 7),(.q (.mv (.t 29))),none,255⟩])
(.seq (.seq (.reg [⟨(some 30),(.q (.mv (.t 6))),none,0⟩,
⟨(some 31),(.q (.bin .sub (.p .int) (.t 30) (.c (.int .i64 (.ofNat 1))))),none,0⟩,
⟨(some 8),(.q (.mv (.t 31))),none,0⟩])
(.block 0 (.loop (.seq (.seq (.reg [⟨(some 32),(.q (.mv (.t 8))),none,0⟩,
⟨(some 33),(.q (.bin .geq (.p .int) (.t 32) (.c (.int .i64 (.ofNat 0))))),none,0⟩])
(.cond (.t 33) .skip (.exit 0)))
(.seq (.block 1 (.seq (.reg [⟨(some 36),(.q (.mv (.t 7))),none,0⟩,
⟨(some 37),(.q (.nilchk (.t 36))),none,0⟩,
⟨(some 38),(.q (.faddr 5 (.t 37))),none,0⟩,
⟨(some 39),(.q (.ld false 1 (.t 38))),none,0⟩,
⟨(some 40),(.q (.mv (.t 8))),none,0⟩,
⟨(some 41),(.q (.iaddr (.slice 1) (.t 39) (.t 40))),none,0⟩,
⟨(some 42),(.q (.ld false 1 (.t 41))),none,0⟩,
⟨(some 43),(.q (.bin .add (.p .int) (.t 42) (.c (.int .i64 (.ofNat 1))))),none,0⟩,
⟨(some 44),(.q (.iaddr (.slice 1) (.t 39) (.t 40))),none,0⟩,
⟨none,(.x (.st 1 (.t 44) (.t 43))),none,0⟩])
(.seq (.seq (.reg [⟨(some 45),(.q (.mv (.t 8))),none,0⟩,
⟨(some 46),(.q (.bin .gtr (.p .int) (.t 45) (.c (.int .i64 (.ofNat 0))))),none,0⟩])
(.cond (.t 46) (.drw [⟨(some 47),(.q (.mv (.t 7))),none,0⟩,
⟨(some 48),(.q (.nilchk (.t 47))),none,1⟩,
⟨(some 49),(.q (.faddr 5 (.t 48))),none,3⟩,
⟨(some 50),(.q (.ld false 1 (.t 49))),none,7⟩,
⟨(some 51),(.q (.mv (.t 4))),none,0⟩,
⟨(some 52),(.q (.mv (.t 8))),none,0⟩,
⟨(some 53),(.q (.iaddr (.slice 1) (.t 51) (.t 52))),none,48⟩,
⟨(some 54),(.q (.ld false 1 (.t 53))),none,112⟩,
⟨(some 55),(.q (.iaddr (.slice 1) (.t 50) (.t 54))),none,255⟩,
⟨(some 56),(.q (.ld false 1 (.t 55))),none,511⟩,
⟨(some 57),(.q (.mv (.t 7))),none,0⟩,
⟨(some 58),(.q (.nilchk (.t 57))),none,1024⟩,
⟨(some 59),(.q (.faddr 5 (.t 58))),none,3072⟩,
⟨(some 60),(.q (.ld false 1 (.t 59))),none,7168⟩,
⟨(some 61),(.q (.mv (.t 8))),none,0⟩,
⟨(some 62),(.q (.iaddr (.slice 1) (.t 60) (.t 61))),none,31744⟩,
⟨(some 63),(.q (.ld false 1 (.t 62))),none,64512⟩,
⟨(some 64),(.q (.bin .add (.p .int) (.t 56) (.t 63))),none,131071⟩,
⟨(some 65),(.q (.iaddr (.slice 1) (.t 50) (.t 54))),none,262143⟩,
⟨none,(.x (.st 1 (.t 65) (.t 64))),none,524287⟩]) .skip))
(.seq (.reg [⟨(some 66),(.q (.faddr 1 (.t 1))),none,0⟩,
⟨(some 67),(.q (.ld false 1 (.t 66))),none,0⟩,
⟨(some 68),(.q (.mv (.t 8))),none,0⟩,
⟨(some 69),(.q (.iaddr (.slice 6) (.t 67) (.t 68))),none,0⟩,
⟨(some 70),(.q (.faddr 3 (.t 69))),none,0⟩,
⟨(some 71),(.q (.ld false 1 (.t 70))),none,0⟩,
⟨(some 72),(.q (.lenSl (.t 71))),none,0⟩,
⟨(some 73),(.q (.mv (.c (.int .i64 (.ofNat 0))))),none,0⟩])
(.block 2 (.loop (.seq (.reg [⟨(some 74),(.q (.bin .lss (.p .int) (.t 73) (.t 72))),none,0⟩])
(.seq (.cond (.t 74) .skip (.exit 2))
(.seq (.block 3 (.seq (.reg [⟨(some 75),(.q (.mv (.t 73))),none,0⟩,
⟨(some 76),(.q (.iaddr (.slice 1) (.t 71) (.t 73))),none,0⟩,
⟨(some 77),(.q (.ld false 1 (.t 76))),none,0⟩,
⟨(some 9),(.q (.mv (.t 75))),none,0⟩,
⟨(some 10),(.q (.mv (.t 77))),none,0⟩])
(.reg [⟨(some 78),(.q (.mv (.t 7))),none,0⟩,
⟨(some 79),(.q (.nilchk (.t 78))),none,0⟩,
⟨(some 80),(.q (.faddr 4 (.t 79))),none,0⟩,
⟨(some 81),(.q (.ld false 1 (.t 80))),none,0⟩,
⟨(some 82),(.q (.mv (.t 10))),none,0⟩,
⟨(some 83),(.q (.mv (.t 9))),none,0⟩,
⟨(some 84),(.q (.iaddr (.slice 1) (.t 81) (.t 82))),none,0⟩,
⟨none,(.x (.st 1 (.t 84) (.t 83))),none,0⟩])))
(.reg [⟨(some 85),(.q (.bin .add (.p .int) (.t 73) (.c (.int .i64 (.ofNat 1))))),none,0⟩,
⟨(some 73),(.q (.mv (.t 85))),none,0⟩]))))))))))
(.reg [⟨(some 34),(.q (.mv (.t 8))),none,0⟩,
⟨(some 35),(.q (.bin .sub (.p .int) (.t 34) (.c (.int .i64 (.ofNat 1))))),none,0⟩,
⟨(some 8),(.q (.mv (.t 35))),none,0⟩]))))))
(.seq (.reg [⟨(some 86),(.q (.mv (.t 7))),none,0⟩,
⟨(some 2),(.q (.mv (.t 86))),none,0⟩,
⟨(some 3),(.q (.mv (.c (.int .i64 (.ofNat 0))))),none,0⟩])
.ret)))))))⟩
theorem row37 : Row Try.prog (37, a37) := ⟨Try.f37, Try.func37, by kernel_rfl⟩
noncomputable def a38 : AFn :=
⟨66,[(.cell 4 true 2),(.t 5)],(.seq (.reg [⟨(some 4),(.a (.alloc 68 [.nilsl,.nilsl])),none,0⟩,
⟨(some 5),(.q (.mv (.c (.int .i64 (.ofNat 0))))),none,0⟩])
(.seq (.reg [⟨(some 14),(.q (.mv (.t 0))),none,0⟩,
⟨(some 15),(.q (.nilchk (.t 14))),none,0⟩,
⟨(some 16),(.q (.faddr 0 (.t 15))),none,0⟩,
⟨(some 17),(.q (.faddr 1 (.t 16))),none,0⟩,
⟨(some 18),(.q (.ld false 1 (.t 17))),none,0⟩,
⟨(some 19),(.q (.lenSl (.t 18))),none,0⟩,
⟨(some 6),(.q (.mv (.t 19))),none,0⟩])
(.seq (.seq (.reg [⟨(some 20),(.q (.mv (.t 1))),none,0⟩,
⟨(some 21),(.q (.lenSl (.t 20))),none,0⟩,
⟨(some 22),(.q (.mv (.t 6))),none,0⟩,
⟨(some 23),(.q (.bin .neq (.p .int) (.t 21) (.t 22))),none,0⟩])
(.cond (.t 23) (.seq (.reg [⟨(some 24),(.q (.build [.nilsl,.nilsl] [])),none,0⟩,
⟨none,(.x (.st 2 (.t 4) (.t 24))),none,0⟩,
⟨(some 5),(.q (.mv (.c (.int .i64 (.ofNat 10))))),none,0⟩])
.ret) .skip))
(.seq (.seq (.reg [⟨(some 25),(.q (.mv (.t 1))),none,0⟩,
⟨(some 26),(.q (.lenSl (.t 25))),none,0⟩,
⟨(some 27),(.q (.mv (.c (.int .i64 (.ofNat 0))))),none,0⟩])
(.block 0 (.loop (.seq (.reg [⟨(some 28),(.q (.bin .lss (.p .int) (.t 27) (.t 26))),none,0⟩])
(.seq (.cond (.t 28) .skip (.exit 0))
(.seq (.block 1 (.seq (.reg [⟨(some 29),(.q (.iaddr (.slice 1) (.t 25) (.t 27))),none,0⟩,
⟨(some 30),(.q (.ld false 1 (.t 29))),none,0⟩,
⟨(some 8),(.q (.mv (.t 30))),none,0⟩])
(.seq (.reg [⟨(some 31),(.q (.mv (.t 8))),none,0⟩,
⟨(some 32),(.q (.bin .lss (.p .int) (.t 31) (.c (.int .i64 (.ofNat 0))))),none,0⟩,
⟨(some 33),(.q (.mv (.t 32))),none,0⟩,
⟨(some 34),(.q (.mv (.t 8))),(some (33,false)),0⟩,
⟨(some 35),(.q (.mv (.t 6))),(some (33,false)),0⟩,
⟨(some 36),(.q (.bin .geq (.p .int) (.t 34) (.t 35))),(some (33,false)),0⟩,
⟨(some 37),(.q (.pick (.t 33) (.c (.bool true)) (.t 36))),none,0⟩])
(.cond (.t 37) (.seq (.reg [⟨(some 38),(.q (.build [.nilsl,.nilsl] [])),none,0⟩,
⟨none,(.x (.st 2 (.t 4) (.t 38))),none,0⟩,
⟨(some 5),(.q (.mv (.c (.int .i64 (.ofNat 2))))),none,0⟩])
.ret) .skip))))
(.reg [⟨(some 39),(.q (.bin .add (.p .int) (.t 27) (.c (.int .i64 (.ofNat 1))))),none,0⟩,
⟨(some 27),(.q (.mv (.t 39))),none,0⟩])))))))
(.seq (.reg [⟨(some 40),(.q (.mv (.t 6))),none,0⟩,
⟨(some 41),(.a (.mkSlice 4 1 1 [(.bool false)] (.t 40) (.t 40))),none,0⟩,
⟨(some 9),(.q (.mv (.t 41))),none,0⟩])
(.seq (.seq (.reg [⟨(some 42),(.q (.mv (.t 1))),none,0⟩,
⟨(some 43),(.q (.lenSl (.t 42))),none,0⟩,
⟨(some 44),(.q (.mv (.c (.int .i64 (.ofNat 0))))),none,0⟩])
(.block 2 (.loop (.seq (.reg [⟨(some 45),(.q (.bin .lss (.p .int) (.t 44) (.t 43))),none,0⟩])
(.seq (.cond (.t 45) .skip (.exit 2))
(.seq (.block 3 (.seq (.reg [⟨(some 46),(.q (.iaddr (.slice 1) (.t 42) (.t 44))),none,0⟩,
⟨(some 47),(.q (.ld false 1 (.t 46))),none,0⟩,
⟨(some 11),(.q (.mv (.t 47))),none,0⟩])
(.seq (.seq (.reg [⟨(some 48),(.q (.mv (.t 9))),none,0⟩,
⟨(some 49),(.q (.mv (.t 11))),none,0⟩,
⟨(some 50),(.q (.iaddr (.slice 1) (.t 48) (.t 49))),none,0⟩,
⟨(some 51),(.q (.ld false 1 (.t 50))),none,0⟩])
(.cond (.t 51) (.seq (.reg [⟨(some 52),(.q (.build [.nilsl,.nilsl] [])),none,0⟩,
⟨none,(.x (.st 2 (.t 4) (.t 52))),none,0⟩,
⟨(some 5),(.q (.mv (.c (.int .i64 (.ofNat 8))))),none,0⟩])
.ret) .skip))
(.reg [⟨(some 53),(.q (.mv (.t 9))),none,0⟩,
⟨(some 54),(.q (.mv (.t 11))),none,0⟩,
⟨(some 55),(.q (.iaddr (.slice 1) (.t 53) (.t 54))),none,0⟩,
⟨none,(.x (.st 1 (.t 55) (.c (.bool true)))),none,0⟩]))))
(.reg [⟨(some 56),(.q (.bin .add (.p .int) (.t 44) (.c (.int .i64 (.ofNat 1))))),none,0⟩,
⟨(some 44),(.q (.mv (.t 56))),none,0⟩])))))))
(.seq (.seq (.reg [⟨(some 58),(.q (.mv (.t 0))),none,0⟩,
⟨(some 59),(.q (.mv (.t 1))),none,0⟩,
⟨(some 60),(.x (.call (.c (.fn 48 [] [])) [(.t 58),(.t 59)])),none,0⟩,
⟨(some 57),(.q (.mv (.t 60))),none,0⟩,
⟨(some 61),(.q (.extract (.t 57) 0)),none,0⟩,
⟨(some 62),(.q (.extract (.t 57) 1)),none,0⟩,
⟨(some 12),(.a (.alloc 68 [.nilsl,.nilsl])),none,0⟩,
⟨none,(.x (.st 2 (.t 12) (.t 61))),none,0⟩,
⟨(some 13),(.q (.mv (.t 62))),none,0⟩])
(.seq (.reg [⟨(some 63),(.q (.mv (.t 13))),none,0⟩])
(.cond (.t 63) (.seq (.reg [⟨(some 64),(.q (.ld true 2 (.t 12))),none,0⟩,
⟨none,(.x (.st 2 (.t 4) (.t 64))),none,0⟩,
⟨(some 5),(.q (.mv (.c (.int .i64 (.ofNat 0))))),none,0⟩])
.ret) .skip)))
(.seq (.reg [⟨(some 65),(.q (.build [.nilsl,.nilsl] [])),none,0⟩,
⟨none,(.x (.st 2 (.t 4) (.t 65))),none,0⟩,
⟨(some 5),(.q (.mv (.c (.int .i64 (.ofNat 3))))),none,0⟩])
.ret))))))))⟩
theorem row38 : Row Try.prog (38, a38) := ⟨Try.f38, Try.func38, by kernel_rfl⟩
end Go.Proofs.Ytjjclnclbjifaaa.symmetryNames
