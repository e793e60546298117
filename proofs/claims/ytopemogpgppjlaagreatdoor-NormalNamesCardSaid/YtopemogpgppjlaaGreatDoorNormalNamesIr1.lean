/- The functions that NormalNames reaches, as data of the evaluator (part 1), written by program; each is shown to be the compiler's result on the loaded function. -/
import Derived.Test.YtopemogpgppjlaaGreatDoorProg
import Derived.Test.YtopemogpgppjlaaGreatDoorEv7
import Derived.KernelRfl
namespace Go.Proofs.YtopemogpgppjlaaGreatDoor.normalNames
open Go.Ev
set_option maxRecDepth 100000
noncomputable def a116 : AFn :=
⟨16,[(.cell 2 true 3)],(.seq (.reg [⟨(some 2),(.a (.alloc 128 [(.bool false),.nilsl,.nilsl])),none,0⟩])
(.seq (.seq (.reg [⟨(some 3),(.q (.mv (.t 0))),none,0⟩,
⟨(some 4),(.q (.bin .lss (.p .int) (.t 3) (.c (.int .i64 (.ofNat 0))))),none,0⟩])
(.cond (.t 4) (.seq (.reg [⟨(some 5),(.q (.mv (.t 0))),none,0⟩,
⟨(some 6),(.q (.bin .add (.p .int) (.t 5) (.c (.int .i64 (.ofNat 1))))),none,0⟩,
⟨(some 7),(.q (.un .neg (.t 6))),none,0⟩,
⟨(some 8),(.q (.conv (.int .u64) (.t 7))),none,0⟩,
⟨(some 9),(.q (.bin .add (.p .int) (.t 8) (.c (.int .u64 (.ofNat 1))))),none,0⟩,
⟨(some 10),(.x (.call (.c (.fn 156 [] [])) [(.t 9)])),none,0⟩,
⟨(some 11),(.q (.build [(.bool false),.nilsl,.nilsl] [(0,1,(.c (.bool true))),(1,1,(.t 10))])),none,0⟩,
⟨none,(.x (.st 3 (.t 2) (.t 11))),none,0⟩])
.ret) .skip))
(.seq (.reg [⟨(some 12),(.q (.mv (.t 0))),none,0⟩,
⟨(some 13),(.q (.conv (.int .u64) (.t 12))),none,0⟩,
⟨(some 14),(.x (.call (.c (.fn 156 [] [])) [(.t 13)])),none,0⟩,
⟨(some 15),(.q (.build [(.bool false),.nilsl,.nilsl] [(1,1,(.t 14))])),none,0⟩,
⟨none,(.x (.st 3 (.t 2) (.t 15))),none,0⟩])
.ret)))⟩
theorem row116 : Row Tryz.prog (116, a116) := ⟨Tryz.f116, Tryz.func116, by kernel_rfl⟩
noncomputable def a117 : AFn :=
⟨8,[(.t 4)],(.seq (.reg [⟨(some 4),(.q (.mv (.c (.int .i64 (.ofNat 0))))),none,0⟩])
(.seq (.reg [⟨(some 5),(.q (.mv (.t 0))),none,0⟩,
⟨(some 6),(.q (.mv (.t 1))),none,0⟩,
⟨(some 7),(.q (.bin .add (.p .int) (.t 5) (.t 6))),none,0⟩,
⟨(some 4),(.q (.mv (.t 7))),none,0⟩])
.ret))⟩
theorem row117 : Row Tryz.prog (117, a117) := ⟨Tryz.f117, Tryz.func117, by kernel_rfl⟩
noncomputable def a118 : AFn :=
⟨10,[(.cell 4 true 3)],(.seq (.reg [⟨(some 4),(.a (.alloc 128 [(.bool false),.nilsl,.nilsl])),none,0⟩])
(.seq (.reg [⟨(some 5),(.q (.mv (.t 0))),none,0⟩,
⟨(some 6),(.x (.call (.c (.fn 116 [] [])) [(.t 5)])),none,0⟩,
⟨(some 7),(.q (.mv (.t 1))),none,0⟩,
⟨(some 8),(.x (.call (.c (.fn 116 [] [])) [(.t 7)])),none,0⟩,
⟨(some 9),(.x (.call (.c (.fn 157 [] [])) [(.t 6),(.t 8)])),none,0⟩,
⟨none,(.x (.st 3 (.t 4) (.t 9))),none,0⟩])
.ret))⟩
theorem row118 : Row Tryz.prog (118, a118) := ⟨Tryz.f118, Tryz.func118, by kernel_rfl⟩
noncomputable def a119 : AFn :=
⟨92,[(.cell 4 true 3)],(.seq (.reg [⟨(some 2),(.a (.box 128 (.t 0))),none,0⟩,
⟨(some 3),(.a (.box 128 (.t 1))),none,0⟩,
⟨(some 4),(.a (.alloc 128 [(.bool false),.nilsl,.nilsl])),none,0⟩])
(.seq (.seq (.reg [⟨(some 15),(.q (.ld true 3 (.t 2))),none,0⟩,
⟨(some 16),(.x (.call (.c (.fn 158 [] [])) [(.t 15)])),none,0⟩])
(.cond (.t 16) (.seq (.reg [⟨(some 17),(.q (.ld true 3 (.t 3))),none,0⟩,
⟨none,(.x (.st 3 (.t 4) (.t 17))),none,0⟩])
.ret) .skip))
(.seq (.seq (.reg [⟨(some 18),(.q (.ld true 3 (.t 3))),none,0⟩,
⟨(some 19),(.x (.call (.c (.fn 158 [] [])) [(.t 18)])),none,0⟩])
(.cond (.t 19) (.seq (.reg [⟨(some 20),(.q (.ld true 3 (.t 2))),none,0⟩,
⟨none,(.x (.st 3 (.t 4) (.t 20))),none,0⟩])
.ret) .skip))
(.seq (.seq (.reg [⟨(some 21),(.q (.faddr 2 (.t 2))),none,0⟩,
⟨(some 22),(.q (.ld false 1 (.t 21))),none,0⟩,
⟨(some 23),(.q (.lenSl (.t 22))),none,0⟩,
⟨(some 24),(.q (.bin .eql (.p .int) (.t 23) (.c (.int .i64 (.ofNat 0))))),none,0⟩,
⟨(some 25),(.q (.mv (.t 24))),none,0⟩,
⟨(some 26),(.q (.faddr 2 (.t 3))),(some (25,true)),0⟩,
⟨(some 27),(.q (.ld false 1 (.t 26))),(some (25,true)),0⟩,
⟨(some 28),(.q (.lenSl (.t 27))),(some (25,true)),0⟩,
⟨(some 29),(.q (.bin .eql (.p .int) (.t 28) (.c (.int .i64 (.ofNat 0))))),(some (25,true)),0⟩,
⟨(some 30),(.q (.pick (.t 25) (.t 29) (.c (.bool false)))),none,0⟩])
(.cond (.t 30) (.seq (.reg [⟨(some 32),(.q (.faddr 0 (.t 2))),none,0⟩,
⟨(some 33),(.q (.ld false 1 (.t 32))),none,0⟩,
⟨(some 34),(.q (.faddr 1 (.t 2))),none,0⟩,
⟨(some 35),(.q (.ld false 1 (.t 34))),none,0⟩,
⟨(some 36),(.q (.faddr 0 (.t 3))),none,0⟩,
⟨(some 37),(.q (.ld false 1 (.t 36))),none,0⟩,
⟨(some 38),(.q (.faddr 1 (.t 3))),none,0⟩,
⟨(some 39),(.q (.ld false 1 (.t 38))),none,0⟩,
⟨(some 40),(.x (.call (.c (.fn 159 [] [])) [(.t 33),(.t 35),(.t 37),(.t 39)])),none,0⟩,
⟨(some 31),(.q (.mv (.t 40))),none,0⟩,
⟨(some 41),(.q (.extract (.t 31) 0)),none,0⟩,
⟨(some 42),(.q (.extract (.t 31) 1)),none,0⟩,
⟨(some 5),(.q (.mv (.t 41))),none,0⟩,
⟨(some 6),(.q (.mv (.t 42))),none,0⟩])
(.seq (.reg [⟨(some 43),(.q (.mv (.t 5))),none,0⟩,
⟨(some 44),(.q (.mv (.t 6))),none,0⟩,
⟨(some 45),(.x (.call (.c (.fn 160 [] [])) [(.t 43),(.t 44),(.c .nilsl)])),none,0⟩,
⟨none,(.x (.st 3 (.t 4) (.t 45))),none,0⟩])
.ret)) .skip))
(.seq (.drw [⟨(some 46),(.q (.ld true 3 (.t 2))),none,0⟩,
⟨(some 47),(.x (.call (.c (.fn 161 [] [])) [(.t 46)])),none,1⟩,
⟨(some 48),(.q (.ld true 3 (.t 3))),none,0⟩,
⟨(some 49),(.x (.call (.c (.fn 161 [] [])) [(.t 48)])),none,7⟩,
⟨(some 7),(.q (.mv (.t 47))),none,15⟩,
⟨(some 8),(.q (.mv (.t 49))),none,31⟩])
(.seq (.reg [⟨(some 50),(.q (.mv (.t 7))),none,0⟩,
⟨(some 51),(.q (.mv (.t 8))),none,0⟩,
⟨(some 52),(.x (.call (.c (.fn 162 [] [])) [(.t 50),(.t 51)])),none,0⟩,
⟨(some 9),(.q (.mv (.t 52))),none,0⟩])
(.seq (.reg [⟨(some 53),(.q (.mv (.t 7))),none,0⟩,
⟨(some 54),(.q (.mv (.t 9))),none,0⟩,
⟨(some 55),(.x (.call (.c (.fn 163 [] [])) [(.t 53),(.t 54)])),none,0⟩,
⟨(some 56),(.q (.mv (.t 8))),none,0⟩,
⟨(some 57),(.q (.mv (.t 9))),none,0⟩,
⟨(some 58),(.x (.call (.c (.fn 163 [] [])) [(.t 56),(.t 57)])),none,0⟩,
⟨(some 10),(.q (.mv (.t 55))),none,0⟩,
⟨(some 11),(.q (.mv (.t 58))),none,0⟩])
(.seq (.drw [⟨(some 60),(.q (.faddr 0 (.t 2))),none,0⟩,
⟨(some 61),(.q (.ld false 1 (.t 60))),none,1⟩,
⟨(some 62),(.q (.faddr 1 (.t 2))),none,0⟩,
⟨(some 63),(.q (.ld false 1 (.t 62))),none,4⟩,
⟨(some 64),(.q (.mv (.t 11))),none,0⟩,
⟨(some 65),(.x (.call (.c (.fn 164 [] [])) [(.t 63),(.t 64)])),none,28⟩,
⟨(some 66),(.q (.faddr 0 (.t 3))),none,0⟩,
⟨(some 67),(.q (.ld false 1 (.t 66))),none,64⟩,
⟨(some 68),(.q (.faddr 1 (.t 3))),none,0⟩,
⟨(some 69),(.q (.ld false 1 (.t 68))),none,256⟩,
⟨(some 70),(.q (.mv (.t 10))),none,0⟩,
⟨(some 71),(.x (.call (.c (.fn 164 [] [])) [(.t 69),(.t 70)])),none,1852⟩,
⟨(some 72),(.x (.call (.c (.fn 159 [] [])) [(.t 61),(.t 65),(.t 67),(.t 71)])),none,4095⟩,
⟨(some 59),(.q (.mv (.t 72))),none,8191⟩,
⟨(some 73),(.q (.extract (.t 59) 0)),none,16383⟩,
⟨(some 74),(.q (.extract (.t 59) 1)),none,16383⟩,
⟨(some 12),(.q (.mv (.t 73))),none,32767⟩,
⟨(some 13),(.q (.mv (.t 74))),none,131071⟩])
(.seq (.seq (.reg [⟨(some 75),(.q (.mv (.t 13))),none,0⟩,
⟨(some 76),(.q (.lenSl (.t 75))),none,0⟩,
⟨(some 77),(.q (.bin .eql (.p .int) (.t 76) (.c (.int .i64 (.ofNat 0))))),none,0⟩])
(.cond (.t 77) (.seq (.reg [⟨(some 78),(.q (.build [(.bool false),.nilsl,.nilsl] [])),none,0⟩,
⟨none,(.x (.st 3 (.t 4) (.t 78))),none,0⟩])
.ret) .skip))
(.seq (.reg [⟨(some 79),(.q (.mv (.t 13))),none,0⟩,
⟨(some 80),(.q (.mv (.t 9))),none,0⟩,
⟨(some 81),(.x (.call (.c (.fn 162 [] [])) [(.t 79),(.t 80)])),none,0⟩,
⟨(some 14),(.q (.mv (.t 81))),none,0⟩])
(.seq (.reg [⟨(some 82),(.q (.mv (.t 12))),none,0⟩,
⟨(some 83),(.q (.mv (.t 13))),none,0⟩,
⟨(some 84),(.q (.mv (.t 14))),none,0⟩,
⟨(some 85),(.x (.call (.c (.fn 163 [] [])) [(.t 83),(.t 84)])),none,0⟩,
⟨(some 86),(.q (.mv (.t 10))),none,0⟩,
⟨(some 87),(.q (.mv (.t 8))),none,0⟩,
⟨(some 88),(.q (.mv (.t 14))),none,0⟩,
⟨(some 89),(.x (.call (.c (.fn 163 [] [])) [(.t 87),(.t 88)])),none,0⟩,
⟨(some 90),(.x (.call (.c (.fn 164 [] [])) [(.t 86),(.t 89)])),none,0⟩,
⟨(some 91),(.x (.call (.c (.fn 160 [] [])) [(.t 82),(.t 85),(.t 90)])),none,0⟩,
⟨none,(.x (.st 3 (.t 4) (.t 91))),none,0⟩])
.ret)))))))))))⟩
theorem row119 : Row Tryz.prog (119, a119) := ⟨Tryz.f119, Tryz.func119, by kernel_rfl⟩
noncomputable def a120 : AFn :=
⟨50,[(.cell 4 true 3)],(.seq (.reg [⟨(some 2),(.a (.box 128 (.t 0))),none,0⟩,
⟨(some 3),(.a (.box 128 (.t 1))),none,0⟩,
⟨(some 4),(.a (.alloc 128 [(.bool false),.nilsl,.nilsl])),none,0⟩])
(.seq (.seq (.reg [⟨(some 9),(.q (.ld true 3 (.t 2))),none,0⟩,
⟨(some 10),(.x (.call (.c (.fn 158 [] [])) [(.t 9)])),none,0⟩,
⟨(some 11),(.q (.mv (.t 10))),none,0⟩,
⟨(some 12),(.q (.ld true 3 (.t 3))),(some (11,false)),0⟩,
⟨(some 13),(.x (.call (.c (.fn 158 [] [])) [(.t 12)])),(some (11,false)),0⟩,
⟨(some 14),(.q (.pick (.t 11) (.c (.bool true)) (.t 13))),none,0⟩])
(.cond (.t 14) (.seq (.reg [⟨(some 15),(.q (.build [(.bool false),.nilsl,.nilsl] [])),none,0⟩,
⟨none,(.x (.st 3 (.t 4) (.t 15))),none,0⟩])
.ret) .skip))
(.seq (.drw [⟨(some 16),(.q (.ld true 3 (.t 2))),none,0⟩,
⟨(some 17),(.x (.call (.c (.fn 161 [] [])) [(.t 16)])),none,1⟩,
⟨(some 18),(.q (.ld true 3 (.t 3))),none,0⟩,
⟨(some 19),(.x (.call (.c (.fn 161 [] [])) [(.t 18)])),none,7⟩,
⟨(some 5),(.q (.mv (.t 17))),none,15⟩,
⟨(some 6),(.q (.mv (.t 19))),none,31⟩])
(.seq (.drw [⟨(some 20),(.q (.faddr 1 (.t 2))),none,0⟩,
⟨(some 21),(.q (.ld false 1 (.t 20))),none,1⟩,
⟨(some 22),(.q (.mv (.t 6))),none,0⟩,
⟨(some 23),(.x (.call (.c (.fn 162 [] [])) [(.t 21),(.t 22)])),none,7⟩,
⟨(some 24),(.q (.faddr 1 (.t 3))),none,0⟩,
⟨(some 25),(.q (.ld false 1 (.t 24))),none,16⟩,
⟨(some 26),(.q (.mv (.t 5))),none,0⟩,
⟨(some 27),(.x (.call (.c (.fn 162 [] [])) [(.t 25),(.t 26)])),none,127⟩,
⟨(some 7),(.q (.mv (.t 23))),none,255⟩,
⟨(some 8),(.q (.mv (.t 27))),none,511⟩])
(.seq (.drw [⟨(some 28),(.q (.faddr 0 (.t 2))),none,0⟩,
⟨(some 29),(.q (.ld false 1 (.t 28))),none,1⟩,
⟨(some 30),(.q (.faddr 0 (.t 3))),none,0⟩,
⟨(some 31),(.q (.ld false 1 (.t 30))),none,4⟩,
⟨(some 32),(.q (.bin .neq (.p .bool) (.t 29) (.t 31))),none,15⟩,
⟨(some 33),(.q (.faddr 1 (.t 2))),none,0⟩,
⟨(some 34),(.q (.ld false 1 (.t 33))),none,32⟩,
⟨(some 35),(.q (.mv (.t 7))),none,0⟩,
⟨(some 36),(.x (.call (.c (.fn 163 [] [])) [(.t 34),(.t 35)])),none,224⟩,
⟨(some 37),(.q (.faddr 1 (.t 3))),none,0⟩,
⟨(some 38),(.q (.ld false 1 (.t 37))),none,512⟩,
⟨(some 39),(.q (.mv (.t 8))),none,0⟩,
⟨(some 40),(.x (.call (.c (.fn 163 [] [])) [(.t 38),(.t 39)])),none,4064⟩,
⟨(some 41),(.x (.call (.c (.fn 164 [] [])) [(.t 36),(.t 40)])),none,8160⟩,
⟨(some 42),(.q (.mv (.t 5))),none,0⟩,
⟨(some 43),(.q (.mv (.t 8))),none,0⟩,
⟨(some 44),(.x (.call (.c (.fn 163 [] [])) [(.t 42),(.t 43)])),none,65504⟩,
⟨(some 45),(.q (.mv (.t 6))),none,0⟩,
⟨(some 46),(.q (.mv (.t 7))),none,0⟩,
⟨(some 47),(.x (.call (.c (.fn 163 [] [])) [(.t 45),(.t 46)])),none,524256⟩,
⟨(some 48),(.x (.call (.c (.fn 164 [] [])) [(.t 44),(.t 47)])),none,1048544⟩,
⟨(some 49),(.x (.call (.c (.fn 160 [] [])) [(.t 32),(.t 41),(.t 48)])),none,2097151⟩,
⟨none,(.x (.st 3 (.t 4) (.t 49))),none,4194303⟩])
.ret)))))⟩
theorem row120 : Row Tryz.prog (120, a120) := ⟨Tryz.f120, Tryz.func120, by kernel_rfl⟩
noncomputable def a121 : AFn :=
⟨8,[(.t 2)],(.seq (.reg [⟨(some 2),(.q (.mv (.c .nilsl))),none,0⟩])
(.seq (.seq (.reg [⟨(some 3),(.q (.mv (.t 0))),none,0⟩,
⟨(some 4),(.q (.bin .eql (.p .slice) (.t 3) (.c .nilsl))),none,0⟩])
(.cond (.t 4) (.seq (.reg [⟨(some 2),(.q (.mv (.c .nilsl))),none,0⟩])
.ret) .skip))
(.seq (.reg [⟨(some 5),(.a (.bslice 149 1 0 [(.int .u32 (.ofNat 0))] [])),none,0⟩,
⟨(some 6),(.q (.mv (.t 0))),none,0⟩,
⟨(some 7),(.x (.app 149 1 4 (.t 5) (.t 6))),none,0⟩,
⟨(some 2),(.q (.mv (.t 7))),none,0⟩])
.ret)))⟩
theorem row121 : Row Tryz.prog (121, a121) := ⟨Tryz.f121, Tryz.func121, by kernel_rfl⟩
noncomputable def a122 : AFn :=
⟨45,[],(.seq (.reg [⟨(some 6),(.q (.ld false 1 (.t 1))),none,0⟩,
⟨(some 7),(.q (.lenSl (.t 6))),none,0⟩,
⟨(some 8),(.a (.mkSlice 3 1 8 [(.int .i64 (.ofNat 0))] (.t 7) (.t 7))),none,0⟩,
⟨(some 3),(.q (.mv (.t 8))),none,0⟩])
(.seq (.reg [⟨(some 9),(.q (.ld false 1 (.t 1))),none,0⟩,
⟨(some 10),(.x (.call (.c (.fn 71 [] [])) [(.t 9)])),none,0⟩,
⟨(some 11),(.q (.mv (.c (.int .i64 (.ofNat 0))))),none,0⟩])
(.block 0 (.loop (.seq (.reg [⟨(some 12),(.q (.bin .lss (.p .int) (.t 11) (.t 10))),none,0⟩])
(.seq (.cond (.t 12) .skip (.exit 0))
(.seq (.block 1 (.seq (.reg [⟨(some 13),(.q (.mv (.t 11))),none,0⟩,
⟨(some 4),(.q (.mv (.t 13))),none,0⟩])
(.seq (.seq (.reg [⟨(some 14),(.q (.mv (.t 0))),none,0⟩,
⟨(some 15),(.q (.mv (.t 4))),none,0⟩,
⟨(some 16),(.q (.mv (.t 3))),none,0⟩,
⟨(some 17),(.x (.call (.t 14) [(.t 15),(.t 16)])),none,0⟩,
⟨(some 18),(.q (.un .not (.t 17))),none,0⟩])
(.cond (.t 18) .ret .skip))
(.seq (.reg [⟨(some 19),(.q (.mv (.t 3))),none,0⟩,
⟨(some 20),(.q (.lenSl (.t 19))),none,0⟩,
⟨(some 21),(.q (.bin .sub (.p .int) (.t 20) (.c (.int .i64 (.ofNat 1))))),none,0⟩,
⟨(some 5),(.q (.mv (.t 21))),none,0⟩])
(.block 2 (.loop (.seq (.seq (.reg [⟨(some 22),(.q (.mv (.t 5))),none,0⟩,
⟨(some 23),(.q (.bin .geq (.p .int) (.t 22) (.c (.int .i64 (.ofNat 0))))),none,0⟩])
(.cond (.t 23) .skip (.exit 2)))
(.seq (.block 3 (.seq (.reg [⟨(some 26),(.q (.mv (.t 3))),none,0⟩,
⟨(some 27),(.q (.mv (.t 5))),none,0⟩,
⟨(some 28),(.q (.iaddr (.slice 1) (.t 26) (.t 27))),none,0⟩,
⟨(some 29),(.q (.ld false 1 (.t 28))),none,0⟩,
⟨(some 30),(.q (.bin .add (.p .int) (.t 29) (.c (.int .i64 (.ofNat 1))))),none,0⟩,
⟨(some 31),(.q (.iaddr (.slice 1) (.t 26) (.t 27))),none,0⟩,
⟨none,(.x (.st 1 (.t 31) (.t 30))),none,0⟩])
(.seq (.seq (.drw [⟨(some 32),(.q (.mv (.t 3))),none,0⟩,
⟨(some 33),(.q (.mv (.t 5))),none,0⟩,
⟨(some 34),(.q (.iaddr (.slice 1) (.t 32) (.t 33))),none,3⟩,
⟨(some 35),(.q (.ld false 1 (.t 34))),none,7⟩,
⟨(some 36),(.q (.ld false 1 (.t 1))),none,0⟩,
⟨(some 37),(.q (.mv (.t 5))),none,0⟩,
⟨(some 38),(.q (.iaddr (.slice 1) (.t 36) (.t 37))),none,48⟩,
⟨(some 39),(.q (.ld false 1 (.t 38))),none,112⟩,
⟨(some 40),(.q (.bin .lss (.p .int) (.t 35) (.t 39))),none,255⟩])
(.cond (.t 40) (.exit 2) .skip))
(.reg [⟨(some 41),(.q (.mv (.t 3))),none,0⟩,
⟨(some 42),(.q (.mv (.t 5))),none,0⟩,
⟨(some 43),(.q (.iaddr (.slice 1) (.t 41) (.t 42))),none,0⟩,
⟨none,(.x (.st 1 (.t 43) (.c (.int .i64 (.ofNat 0))))),none,0⟩]))))
(.reg [⟨(some 24),(.q (.mv (.t 5))),none,0⟩,
⟨(some 25),(.q (.bin .sub (.p .int) (.t 24) (.c (.int .i64 (.ofNat 1))))),none,0⟩,
⟨(some 5),(.q (.mv (.t 25))),none,0⟩])))))))))
(.reg [⟨(some 44),(.q (.bin .add (.p .int) (.t 11) (.c (.int .i64 (.ofNat 1))))),none,0⟩,
⟨(some 11),(.q (.mv (.t 44))),none,0⟩]))))))))⟩
theorem row122 : Row Tryz.prog (122, a122) := ⟨Tryz.f122, Tryz.func122, by kernel_rfl⟩
noncomputable def a123 : AFn :=
⟨32,[(.cell 6 true 3)],(.seq (.reg [⟨(some 6),(.a (.alloc 43 [(.bool false),.nilsl,.nilsl])),none,0⟩])
(.seq (.seq (.reg [⟨(some 8),(.q (.mv (.t 1))),none,0⟩,
⟨(some 9),(.q (.lenSl (.t 8))),none,0⟩,
⟨(some 10),(.q (.bin .eql (.p .int) (.t 9) (.c (.int .i64 (.ofNat 0))))),none,0⟩])
(.cond (.t 10) (.seq (.reg [⟨(some 11),(.a (.bslice 149 1 1 [(.int .u32 (.ofNat 0))] [(0,(.c (.int .u32 (.ofNat 1))))])),none,0⟩,
⟨(some 12),(.q (.build [(.bool false),.nilsl,.nilsl] [(2,1,(.t 11))])),none,0⟩,
⟨none,(.x (.st 3 (.t 6) (.t 12))),none,0⟩])
.ret) .skip))
(.seq (.reg [⟨(some 13),(.q (.mv (.t 1))),none,0⟩,
⟨(some 14),(.q (.mv (.t 2))),none,0⟩,
⟨(some 15),(.x (.call (.c (.fn 165 [] [])) [(.t 13),(.t 14)])),none,0⟩,
⟨(some 7),(.q (.mv (.t 15))),none,0⟩])
(.seq (.reg [⟨(some 17),(.q (.mv (.t 1))),none,0⟩,
⟨(some 18),(.q (.mv (.t 7))),none,0⟩,
⟨(some 19),(.x (.call (.c (.fn 166 [] [])) [(.t 17),(.t 18)])),none,0⟩,
⟨(some 16),(.q (.mv (.t 19))),none,0⟩,
⟨(some 20),(.q (.extract (.t 16) 0)),none,0⟩,
⟨(some 21),(.q (.extract (.t 16) 1)),none,0⟩,
⟨(some 1),(.q (.mv (.t 20))),none,0⟩])
(.seq (.reg [⟨(some 23),(.q (.mv (.t 2))),none,0⟩,
⟨(some 24),(.q (.mv (.t 7))),none,0⟩,
⟨(some 25),(.x (.call (.c (.fn 166 [] [])) [(.t 23),(.t 24)])),none,0⟩,
⟨(some 22),(.q (.mv (.t 25))),none,0⟩,
⟨(some 26),(.q (.extract (.t 22) 0)),none,0⟩,
⟨(some 27),(.q (.extract (.t 22) 1)),none,0⟩,
⟨(some 2),(.q (.mv (.t 26))),none,0⟩])
(.seq (.reg [⟨(some 28),(.q (.mv (.t 0))),none,0⟩,
⟨(some 29),(.q (.mv (.t 1))),none,0⟩,
⟨(some 30),(.q (.mv (.t 2))),none,0⟩,
⟨(some 31),(.q (.build [(.bool false),.nilsl,.nilsl] [(0,1,(.t 28)),(1,1,(.t 29)),(2,1,(.t 30))])),none,0⟩,
⟨none,(.x (.st 3 (.t 6) (.t 31))),none,0⟩])
.ret))))))⟩
theorem row123 : Row Tryz.prog (123, a123) := ⟨Tryz.f123, Tryz.func123, by kernel_rfl⟩
noncomputable def a124 : AFn :=
⟨20,[(.t 2)],(.seq (.reg [⟨(some 2),(.q (.mv (.c .nilsl))),none,0⟩])
(.seq (.reg [⟨(some 3),(.q (.mv (.c .nilsl))),none,0⟩])
(.seq (.block 0 (.loop (.seq (.seq (.reg [⟨(some 5),(.q (.mv (.t 0))),none,0⟩,
⟨(some 6),(.q (.bin .neq (.p .int) (.t 5) (.c (.int .i64 (.ofNat 0))))),none,0⟩])
(.cond (.t 6) .skip (.exit 0)))
(.block 1 (.seq (.reg [⟨(some 7),(.q (.mv (.t 0))),none,0⟩,
⟨(some 8),(.q (.bin .rem (.p .int) (.t 7) (.c (.int .i64 (.ofNat 1000000000))))),none,0⟩,
⟨(some 4),(.q (.mv (.t 8))),none,0⟩])
(.seq (.reg [⟨(some 9),(.q (.mv (.t 3))),none,0⟩,
⟨(some 10),(.q (.mv (.t 4))),none,0⟩,
⟨(some 11),(.q (.mv (.t 4))),none,0⟩,
⟨(some 12),(.q (.un .neg (.t 11))),none,0⟩,
⟨(some 13),(.q (.minmax true [(.t 10),(.t 12)])),none,0⟩,
⟨(some 14),(.q (.conv (.int .u32) (.t 13))),none,0⟩,
⟨(some 15),(.a (.bslice 149 1 1 [(.int .u32 (.ofNat 0))] [(0,(.t 14))])),none,0⟩,
⟨(some 16),(.x (.app 149 1 4 (.t 9) (.t 15))),none,0⟩,
⟨(some 3),(.q (.mv (.t 16))),none,0⟩])
(.reg [⟨(some 17),(.q (.mv (.t 0))),none,0⟩,
⟨(some 18),(.q (.bin .quo (.p .int) (.t 17) (.c (.int .i64 (.ofNat 1000000000))))),none,0⟩,
⟨(some 0),(.q (.mv (.t 18))),none,0⟩])))))))
(.seq (.reg [⟨(some 19),(.q (.mv (.t 3))),none,0⟩,
⟨(some 2),(.q (.mv (.t 19))),none,0⟩])
.ret))))⟩
theorem row124 : Row Tryz.prog (124, a124) := ⟨Tryz.f124, Tryz.func124, by kernel_rfl⟩
noncomputable def a125 : AFn :=
⟨20,[(.t 4)],(.seq (.reg [⟨(some 4),(.q (.mv (.c (.int .i64 (.ofNat 0))))),none,0⟩])
(.seq (.seq (.reg [⟨(some 7),(.q (.mv (.t 0))),none,0⟩,
⟨(some 8),(.x (.call (.c (.fn 167 [] [])) [(.t 7)])),none,0⟩,
⟨(some 5),(.q (.mv (.t 8))),none,0⟩])
(.seq (.reg [⟨(some 9),(.q (.mv (.t 5))),none,0⟩,
⟨(some 10),(.q (.bin .neq (.p .int) (.t 9) (.c (.int .i64 (.ofNat 0))))),none,0⟩])
(.cond (.t 10) (.seq (.reg [⟨(some 11),(.q (.mv (.t 5))),none,0⟩,
⟨(some 4),(.q (.mv (.t 11))),none,0⟩])
.ret) .skip)))
(.seq (.seq (.reg [⟨(some 12),(.q (.mv (.t 1))),none,0⟩,
⟨(some 13),(.x (.call (.c (.fn 167 [] [])) [(.t 12)])),none,0⟩,
⟨(some 6),(.q (.mv (.t 13))),none,0⟩])
(.seq (.reg [⟨(some 14),(.q (.mv (.t 6))),none,0⟩,
⟨(some 15),(.q (.bin .neq (.p .int) (.t 14) (.c (.int .i64 (.ofNat 0))))),none,0⟩])
(.cond (.t 15) (.seq (.reg [⟨(some 16),(.q (.mv (.t 6))),none,0⟩,
⟨(some 4),(.q (.mv (.t 16))),none,0⟩])
.ret) .skip)))
(.seq (.seq (.reg [⟨(some 17),(.q (.mv (.t 1))),none,0⟩,
⟨(some 18),(.q (.lenSl (.t 17))),none,0⟩,
⟨(some 19),(.q (.bin .eql (.p .int) (.t 18) (.c (.int .i64 (.ofNat 0))))),none,0⟩])
(.cond (.t 19) (.seq (.reg [⟨(some 4),(.q (.mv (.c (.int .i64 (.ofNat 6))))),none,0⟩])
.ret) .skip))
(.seq (.reg [⟨(some 4),(.q (.mv (.c (.int .i64 (.ofNat 0))))),none,0⟩])
.ret)))))⟩
theorem row125 : Row Tryz.prog (125, a125) := ⟨Tryz.f125, Tryz.func125, by kernel_rfl⟩
noncomputable def a126 : AFn :=
⟨23,[(.t 4)],(.seq (.reg [⟨(some 4),(.q (.mv (.c (.bool false)))),none,0⟩])
(.seq (.seq (.reg [⟨(some 5),(.q (.mv (.t 0))),none,0⟩,
⟨(some 6),(.q (.lenSl (.t 5))),none,0⟩,
⟨(some 7),(.q (.bin .leq (.p .int) (.t 6) (.c (.int .i64 (.ofNat 2))))),none,0⟩,
⟨(some 8),(.q (.mv (.t 7))),none,0⟩,
⟨(some 9),(.q (.mv (.t 1))),(some (8,true)),0⟩,
⟨(some 10),(.q (.lenSl (.t 9))),(some (8,true)),0⟩,
⟨(some 11),(.q (.bin .leq (.p .int) (.t 10) (.c (.int .i64 (.ofNat 2))))),(some (8,true)),0⟩,
⟨(some 12),(.q (.pick (.t 8) (.t 11) (.c (.bool false)))),none,0⟩])
(.cond (.t 12) (.seq (.reg [⟨(some 13),(.q (.mv (.t 0))),none,0⟩,
⟨(some 14),(.x (.call (.c (.fn 169 [] [])) [(.t 13)])),none,0⟩,
⟨(some 15),(.q (.mv (.t 1))),none,0⟩,
⟨(some 16),(.x (.call (.c (.fn 169 [] [])) [(.t 15)])),none,0⟩,
⟨(some 17),(.x (.call (.c (.fn 168 [] [])) [(.t 14),(.t 16)])),none,0⟩,
⟨(some 18),(.q (.bin .eql (.p .int) (.t 17) (.c (.int .u64 (.ofNat 1))))),none,0⟩,
⟨(some 4),(.q (.mv (.t 18))),none,0⟩])
.ret) .skip))
(.seq (.reg [⟨(some 19),(.q (.mv (.t 0))),none,0⟩,
⟨(some 20),(.q (.mv (.t 1))),none,0⟩,
⟨(some 21),(.x (.call (.c (.fn 171 [] [])) [(.t 19),(.t 20)])),none,0⟩,
⟨(some 22),(.x (.call (.c (.fn 170 [] [])) [(.t 21)])),none,0⟩,
⟨(some 4),(.q (.mv (.t 22))),none,0⟩])
.ret)))⟩
theorem row126 : Row Tryz.prog (126, a126) := ⟨Tryz.f126, Tryz.func126, by kernel_rfl⟩
noncomputable def a131 : AFn :=
⟨15,[(.t 2)],(.seq (.reg [⟨(some 2),(.q (.mv (.c .nilsl))),none,0⟩])
(.seq (.reg [⟨(some 3),(.q (.mv (.c .nilsl))),none,0⟩])
(.seq (.block 0 (.loop (.seq (.seq (.reg [⟨(some 4),(.q (.mv (.t 0))),none,0⟩,
⟨(some 5),(.q (.bin .gtr (.p .int) (.t 4) (.c (.int .u64 (.ofNat 0))))),none,0⟩])
(.cond (.t 5) .skip (.exit 0)))
(.block 1 (.seq (.reg [⟨(some 6),(.q (.mv (.t 3))),none,0⟩,
⟨(some 7),(.q (.mv (.t 0))),none,0⟩,
⟨(some 8),(.q (.bin .rem (.p .int) (.t 7) (.c (.int .u64 (.ofNat 1000000000))))),none,0⟩,
⟨(some 9),(.q (.conv (.int .u32) (.t 8))),none,0⟩,
⟨(some 10),(.a (.bslice 149 1 1 [(.int .u32 (.ofNat 0))] [(0,(.t 9))])),none,0⟩,
⟨(some 11),(.x (.app 149 1 4 (.t 6) (.t 10))),none,0⟩,
⟨(some 3),(.q (.mv (.t 11))),none,0⟩])
(.reg [⟨(some 12),(.q (.mv (.t 0))),none,0⟩,
⟨(some 13),(.q (.bin .quo (.p .int) (.t 12) (.c (.int .u64 (.ofNat 1000000000))))),none,0⟩,
⟨(some 0),(.q (.mv (.t 13))),none,0⟩]))))))
(.seq (.reg [⟨(some 14),(.q (.mv (.t 3))),none,0⟩,
⟨(some 2),(.q (.mv (.t 14))),none,0⟩])
.ret))))⟩
theorem row131 : Row Tryz.prog (131, a131) := ⟨Tryz.f131, Tryz.func131, by kernel_rfl⟩
noncomputable def a150 : AFn :=
⟨22,[(.t 4)],(.seq (.reg [⟨(some 3),(.a (.box 75 (.t 1))),none,0⟩,
⟨(some 4),(.q (.mv (.c (.int .i64 (.ofNat 0))))),none,0⟩])
(.seq (.reg [⟨(some 6),(.q (.build [.nilfn,.nilfn,.nilfn,.nilfn] [(1,1,(.c (.fn 192 [] []))),(2,1,(.c (.fn 193 [] []))),(3,1,(.c (.fn 194 [] [])))])),none,0⟩,
⟨(some 5),(.a (.alloc 251 [.nilfn,.nilfn,.nilfn,.nilfn])),none,0⟩,
⟨none,(.x (.st 4 (.t 5) (.t 6))),none,0⟩])
(.seq (.seq (.reg [⟨(some 7),(.q (.faddr 0 (.t 3))),none,0⟩,
⟨(some 8),(.q (.ld false 1 (.t 7))),none,0⟩,
⟨(some 9),(.q (.bin .lss (.p .int) (.t 8) (.c (.int .i64 (.ofNat 1))))),none,0⟩,
⟨(some 10),(.q (.mv (.t 9))),none,0⟩,
⟨(some 11),(.q (.faddr 0 (.t 3))),(some (10,false)),0⟩,
⟨(some 12),(.q (.ld false 1 (.t 11))),(some (10,false)),0⟩,
⟨(some 13),(.q (.bin .gtr (.p .int) (.t 12) (.c (.int .i64 (.ofNat 3))))),(some (10,false)),0⟩,
⟨(some 14),(.q (.pick (.t 10) (.c (.bool true)) (.t 13))),none,0⟩])
(.cond (.t 14) (.seq (.reg [⟨(some 4),(.q (.mv (.c (.int .i64 (.ofNat 3))))),none,0⟩])
.ret) .skip))
(.seq (.drw [⟨(some 15),(.q (.faddr 0 (.t 3))),none,0⟩,
⟨(some 16),(.q (.ld false 1 (.t 15))),none,1⟩,
⟨(some 17),(.q (.iaddr (.arr 4 1) (.t 5) (.t 16))),none,3⟩,
⟨(some 18),(.q (.ld false 1 (.t 17))),none,7⟩,
⟨(some 19),(.q (.mv (.t 0))),none,0⟩,
⟨(some 20),(.q (.ld true 6 (.t 3))),none,0⟩,
⟨(some 21),(.x (.call (.t 18) [(.t 19),(.t 20)])),none,63⟩,
⟨(some 4),(.q (.mv (.t 21))),none,127⟩])
.ret))))⟩
theorem row150 : Row Tryz.prog (150, a150) := ⟨Tryz.f150, Tryz.func150, by kernel_rfl⟩
noncomputable def a151 : AFn :=
⟨92,[(.t 8),(.t 9)],(.seq (.reg [⟨(some 8),(.q (.mv (.c .nilsl))),none,0⟩,
⟨(some 9),(.q (.mv (.c (.bool false)))),none,0⟩])
(.seq (.seq (.reg [⟨(some 15),(.q (.mv (.t 3))),none,0⟩,
⟨(some 16),(.q (.lenSl (.t 15))),none,0⟩,
⟨(some 17),(.q (.bin .eql (.p .int) (.t 16) (.c (.int .i64 (.ofNat 0))))),none,0⟩])
(.cond (.t 17) (.seq (.reg [⟨(some 8),(.q (.mv (.c .nilsl))),none,0⟩,
⟨(some 9),(.q (.mv (.c (.bool false)))),none,0⟩])
.ret) .skip))
(.seq (.reg [⟨(some 18),(.q (.mv (.t 0))),none,0⟩,
⟨(some 19),(.q (.nilchk (.t 18))),none,0⟩,
⟨(some 20),(.q (.faddr 0 (.t 19))),none,0⟩,
⟨(some 21),(.q (.faddr 1 (.t 20))),none,0⟩,
⟨(some 22),(.q (.ld false 1 (.t 21))),none,0⟩,
⟨(some 23),(.q (.lenSl (.t 22))),none,0⟩,
⟨(some 24),(.q (.mv (.t 3))),none,0⟩,
⟨(some 25),(.q (.lenSl (.t 24))),none,0⟩,
⟨(some 26),(.q (.bin .sub (.p .int) (.t 23) (.t 25))),none,0⟩,
⟨(some 10),(.q (.mv (.t 26))),none,0⟩])
(.seq (.drw [⟨(some 27),(.q (.mv (.t 0))),none,0⟩,
⟨(some 28),(.q (.nilchk (.t 27))),none,1⟩,
⟨(some 29),(.q (.faddr 3 (.t 28))),none,3⟩,
⟨(some 30),(.q (.ld false 1 (.t 29))),none,7⟩,
⟨(some 31),(.q (.mv (.t 10))),none,0⟩,
⟨(some 32),(.q (.mv (.t 0))),none,0⟩,
⟨(some 33),(.q (.nilchk (.t 32))),none,32⟩,
⟨(some 34),(.q (.faddr 4 (.t 33))),none,96⟩,
⟨(some 35),(.q (.ld false 1 (.t 34))),none,224⟩,
⟨(some 36),(.q (.mv (.t 10))),none,0⟩,
⟨(some 37),(.q (.mv (.t 1))),none,0⟩,
⟨(some 38),(.q (.mv (.t 2))),none,0⟩,
⟨(some 39),(.q (.iaddr (.slice 1) (.t 30) (.t 31))),none,1535⟩,
⟨none,(.x (.st 1 (.t 39) (.t 37))),none,5631⟩,
⟨(some 40),(.q (.iaddr (.slice 1) (.t 35) (.t 36))),none,16383⟩,
⟨none,(.x (.st 1 (.t 40) (.t 38))),none,32767⟩])
(.seq (.reg [⟨(some 41),(.q (.mv (.t 3))),none,0⟩,
⟨(some 42),(.q (.slc (.slice 6) (.t 41) (some (.c (.int .i64 (.ofNat 1)))) none none)),none,0⟩,
⟨(some 11),(.q (.mv (.t 42))),none,0⟩,
⟨(some 12),(.q (.mv (.c (.bool true)))),none,0⟩])
(.seq (.seq (.reg [⟨(some 43),(.q (.mv (.t 3))),none,0⟩,
⟨(some 44),(.q (.iaddr (.slice 6) (.t 43) (.c (.int .i64 (.ofNat 0))))),none,0⟩,
⟨(some 45),(.q (.faddr 3 (.t 44))),none,0⟩,
⟨(some 46),(.q (.ld false 1 (.t 45))),none,0⟩,
⟨(some 47),(.q (.lenSl (.t 46))),none,0⟩,
⟨(some 48),(.q (.mv (.c (.int .i64 (.ofNat 0))))),none,0⟩])
(.block 0 (.loop (.seq (.reg [⟨(some 49),(.q (.bin .lss (.p .int) (.t 48) (.t 47))),none,0⟩])
(.seq (.cond (.t 49) .skip (.exit 0))
(.seq (.block 1 (.seq (.reg [⟨(some 50),(.q (.iaddr (.slice 1) (.t 46) (.t 48))),none,0⟩,
⟨(some 51),(.q (.ld false 1 (.t 50))),none,0⟩,
⟨(some 14),(.q (.mv (.t 51))),none,0⟩])
(.seq (.seq (.reg [⟨(some 52),(.q (.mv (.t 14))),none,0⟩,
⟨(some 53),(.q (.mv (.t 0))),none,0⟩,
⟨(some 54),(.q (.nilchk (.t 53))),none,0⟩,
⟨(some 55),(.q (.faddr 0 (.t 54))),none,0⟩,
⟨(some 56),(.q (.faddr 1 (.t 55))),none,0⟩,
⟨(some 57),(.q (.ld false 1 (.t 56))),none,0⟩,
⟨(some 58),(.q (.lenSl (.t 57))),none,0⟩,
⟨(some 59),(.q (.mv (.t 11))),none,0⟩,
⟨(some 60),(.q (.lenSl (.t 59))),none,0⟩,
⟨(some 61),(.q (.bin .sub (.p .int) (.t 58) (.t 60))),none,0⟩,
⟨(some 62),(.q (.bin .neq (.p .int) (.t 52) (.t 61))),none,0⟩])
(.cond (.t 62) (.seq (.reg [⟨(some 8),(.q (.mv (.c .nilsl))),none,0⟩,
⟨(some 9),(.q (.mv (.c (.bool false)))),none,0⟩])
.ret) .skip))
(.seq (.reg [⟨(some 64),(.q (.mv (.t 0))),none,0⟩,
⟨(some 65),(.q (.mv (.t 10))),none,0⟩,
⟨(some 66),(.q (.mv (.t 2))),none,0⟩,
⟨(some 67),(.q (.bin .add (.p .int) (.t 66) (.c (.int .i64 (.ofNat 1))))),none,0⟩,
⟨(some 68),(.q (.mv (.t 11))),none,0⟩,
⟨(some 69),(.x (.call (.c (.fn 151 [] [])) [(.t 64),(.t 65),(.t 67),(.t 68)])),none,0⟩,
⟨(some 63),(.q (.mv (.t 69))),none,0⟩,
⟨(some 70),(.q (.extract (.t 63) 0)),none,0⟩,
⟨(some 71),(.q (.extract (.t 63) 1)),none,0⟩,
⟨(some 11),(.q (.mv (.t 70))),none,0⟩,
⟨(some 12),(.q (.mv (.t 71))),none,0⟩])
(.seq (.reg [⟨(some 72),(.q (.mv (.t 12))),none,0⟩,
⟨(some 73),(.q (.un .not (.t 72))),none,0⟩])
(.cond (.t 73) (.seq (.reg [⟨(some 8),(.q (.mv (.c .nilsl))),none,0⟩,
⟨(some 9),(.q (.mv (.c (.bool false)))),none,0⟩])
.ret) .skip))))))
(.reg [⟨(some 74),(.q (.bin .add (.p .int) (.t 48) (.c (.int .i64 (.ofNat 1))))),none,0⟩,
⟨(some 48),(.q (.mv (.t 74))),none,0⟩])))))))
(.seq (.drw [⟨(some 75),(.q (.mv (.t 0))),none,0⟩,
⟨(some 76),(.q (.nilchk (.t 75))),none,1⟩,
⟨(some 77),(.q (.faddr 5 (.t 76))),none,3⟩,
⟨(some 78),(.q (.ld false 1 (.t 77))),none,7⟩,
⟨(some 79),(.q (.mv (.t 10))),none,0⟩,
⟨(some 80),(.q (.mv (.t 0))),none,0⟩,
⟨(some 81),(.q (.nilchk (.t 80))),none,32⟩,
⟨(some 82),(.q (.faddr 0 (.t 81))),none,96⟩,
⟨(some 83),(.q (.faddr 1 (.t 82))),none,224⟩,
⟨(some 84),(.q (.ld false 1 (.t 83))),none,480⟩,
⟨(some 85),(.q (.lenSl (.t 84))),none,992⟩,
⟨(some 86),(.q (.mv (.t 11))),none,0⟩,
⟨(some 87),(.q (.lenSl (.t 86))),none,2048⟩,
⟨(some 88),(.q (.bin .sub (.p .int) (.t 85) (.t 87))),none,8160⟩,
⟨(some 89),(.q (.bin .sub (.p .int) (.t 88) (.c (.int .i64 (.ofNat 1))))),none,16352⟩,
⟨(some 90),(.q (.iaddr (.slice 1) (.t 78) (.t 79))),none,32767⟩,
⟨none,(.x (.st 1 (.t 90) (.t 89))),none,65535⟩])
(.seq (.reg [⟨(some 91),(.q (.mv (.t 11))),none,0⟩,
⟨(some 8),(.q (.mv (.t 91))),none,0⟩,
⟨(some 9),(.q (.mv (.c (.bool true)))),none,0⟩])
.ret))))))))⟩
theorem row151 : Row Tryz.prog (151, a151) := ⟨Tryz.f151, Tryz.func151, by kernel_rfl⟩
noncomputable def a152 : AFn :=
⟨25,[(.t 2)],(.seq (.reg [⟨(some 2),(.q (.mv (.c (.int .i64 (.ofNat 0))))),none,0⟩])
(.seq (.seq (.reg [⟨(some 5),(.q (.mv (.t 0))),none,0⟩,
⟨(some 6),(.q (.lenSl (.t 5))),none,0⟩,
⟨(some 7),(.q (.bin .lss (.p .int) (.t 6) (.c (.int .i64 (.ofNat 1))))),none,0⟩])
(.cond (.t 7) (.reg [⟨(some 8),(.q (.mkIface 9 (.c (.str [115,108,105,99,101,115,46,77,97,120,58,32,101,109,112,116,121,32,108,105,115,116])))),none,0⟩,
⟨none,(.x (.bad)),none,0⟩]) .skip))
(.seq (.reg [⟨(some 9),(.q (.mv (.t 0))),none,0⟩,
⟨(some 10),(.q (.iaddr (.slice 1) (.t 9) (.c (.int .i64 (.ofNat 0))))),none,0⟩,
⟨(some 11),(.q (.ld false 1 (.t 10))),none,0⟩,
⟨(some 3),(.q (.mv (.t 11))),none,0⟩])
(.seq (.seq (.reg [⟨(some 4),(.q (.mv (.c (.int .i64 (.ofNat 1))))),none,0⟩])
(.block 0 (.loop (.seq (.seq (.reg [⟨(some 12),(.q (.mv (.t 4))),none,0⟩,
⟨(some 13),(.q (.mv (.t 0))),none,0⟩,
⟨(some 14),(.q (.lenSl (.t 13))),none,0⟩,
⟨(some 15),(.q (.bin .lss (.p .int) (.t 12) (.t 14))),none,0⟩])
(.cond (.t 15) .skip (.exit 0)))
(.seq (.block 1 (.reg [⟨(some 18),(.q (.mv (.t 3))),none,0⟩,
⟨(some 19),(.q (.mv (.t 0))),none,0⟩,
⟨(some 20),(.q (.mv (.t 4))),none,0⟩,
⟨(some 21),(.q (.iaddr (.slice 1) (.t 19) (.t 20))),none,0⟩,
⟨(some 22),(.q (.ld false 1 (.t 21))),none,0⟩,
⟨(some 23),(.q (.minmax true [(.t 18),(.t 22)])),none,0⟩,
⟨(some 3),(.q (.mv (.t 23))),none,0⟩]))
(.reg [⟨(some 16),(.q (.mv (.t 4))),none,0⟩,
⟨(some 17),(.q (.bin .add (.p .int) (.t 16) (.c (.int .i64 (.ofNat 1))))),none,0⟩,
⟨(some 4),(.q (.mv (.t 17))),none,0⟩]))))))
(.seq (.reg [⟨(some 24),(.q (.mv (.t 3))),none,0⟩,
⟨(some 2),(.q (.mv (.t 24))),none,0⟩])
.ret)))))⟩
theorem row152 : Row Tryz.prog (152, a152) := ⟨Tryz.f152, Tryz.func152, by kernel_rfl⟩
noncomputable def a153 : AFn :=
⟨80,[(.t 2)],(.seq (.reg [⟨(some 2),(.q (.mv (.c (.int .i64 (.ofNat 0))))),none,0⟩])
(.seq (.reg [⟨(some 8),(.q (.mv (.t 0))),none,0⟩,
⟨(some 9),(.q (.nilchk (.t 8))),none,0⟩,
⟨(some 10),(.q (.faddr 0 (.t 9))),none,0⟩,
⟨(some 11),(.q (.faddr 2 (.t 10))),none,0⟩,
⟨(some 12),(.q (.ld false 1 (.t 11))),none,0⟩,
⟨(some 13),(.q (.lenSl (.t 12))),none,0⟩,
⟨(some 14),(.a (.mkSlice 3 1 8 [(.int .i64 (.ofNat 0))] (.t 13) (.t 13))),none,0⟩,
⟨(some 3),(.q (.mv (.t 14))),none,0⟩])
(.seq (.seq (.reg [⟨(some 15),(.q (.mv (.t 0))),none,0⟩,
⟨(some 16),(.q (.nilchk (.t 15))),none,0⟩,
⟨(some 17),(.q (.faddr 0 (.t 16))),none,0⟩,
⟨(some 18),(.q (.faddr 1 (.t 17))),none,0⟩,
⟨(some 19),(.q (.ld false 1 (.t 18))),none,0⟩,
⟨(some 20),(.q (.lenSl (.t 19))),none,0⟩,
⟨(some 21),(.q (.bin .sub (.p .int) (.t 20) (.c (.int .i64 (.ofNat 1))))),none,0⟩,
⟨(some 4),(.q (.mv (.t 21))),none,0⟩])
(.block 0 (.loop (.seq (.seq (.reg [⟨(some 22),(.q (.mv (.t 4))),none,0⟩,
⟨(some 23),(.q (.bin .geq (.p .int) (.t 22) (.c (.int .i64 (.ofNat 0))))),none,0⟩])
(.cond (.t 23) .skip (.exit 0)))
(.seq (.block 1 (.seq (.reg [⟨(some 26),(.q (.mv (.t 0))),none,0⟩,
⟨(some 27),(.q (.nilchk (.t 26))),none,0⟩,
⟨(some 28),(.q (.faddr 0 (.t 27))),none,0⟩,
⟨(some 29),(.q (.faddr 1 (.t 28))),none,0⟩,
⟨(some 30),(.q (.ld false 1 (.t 29))),none,0⟩,
⟨(some 31),(.q (.mv (.t 4))),none,0⟩,
⟨(some 32),(.q (.iaddr (.slice 6) (.t 30) (.t 31))),none,0⟩,
⟨(some 33),(.q (.ld true 6 (.t 32))),none,0⟩,
⟨(some 5),(.a (.alloc 75 [(.int .i64 (.ofNat 0)),(.int .i64 (.ofNat 0)),(.int .i64 (.ofNat 0)),.nilsl,.nilsl,.nilsl])),none,0⟩,
⟨none,(.x (.st 6 (.t 5) (.t 33))),none,0⟩])
(.seq (.reg [⟨(some 34),(.q (.faddr 0 (.t 5))),none,0⟩,
⟨(some 35),(.q (.ld false 1 (.t 34))),none,0⟩,
⟨(some 36),(.q (.bin .eql (.p .int) (.t 35) (.c (.int .i64 (.ofNat 2))))),none,0⟩])
(.cond (.t 36) (.reg [⟨(some 37),(.q (.mv (.t 3))),none,0⟩,
⟨(some 38),(.q (.faddr 2 (.t 5))),none,0⟩,
⟨(some 39),(.q (.ld false 1 (.t 38))),none,0⟩,
⟨(some 40),(.q (.mv (.t 4))),none,0⟩,
⟨(some 41),(.q (.bin .add (.p .int) (.t 40) (.c (.int .i64 (.ofNat 1))))),none,0⟩,
⟨(some 42),(.q (.iaddr (.slice 1) (.t 37) (.t 39))),none,0⟩,
⟨none,(.x (.st 1 (.t 42) (.t 41))),none,0⟩]) .skip))))
(.reg [⟨(some 24),(.q (.mv (.t 4))),none,0⟩,
⟨(some 25),(.q (.bin .sub (.p .int) (.t 24) (.c (.int .i64 (.ofNat 1))))),none,0⟩,
⟨(some 4),(.q (.mv (.t 25))),none,0⟩]))))))
(.seq (.seq (.reg [⟨(some 43),(.q (.mv (.t 0))),none,0⟩,
⟨(some 44),(.q (.nilchk (.t 43))),none,0⟩,
⟨(some 45),(.q (.faddr 0 (.t 44))),none,0⟩,
⟨(some 46),(.q (.faddr 1 (.t 45))),none,0⟩,
⟨(some 47),(.q (.ld false 1 (.t 46))),none,0⟩,
⟨(some 48),(.q (.lenSl (.t 47))),none,0⟩,
⟨(some 49),(.q (.mv (.c (.int .i64 (.ofNat 0))))),none,0⟩])
(.block 2 (.loop (.seq (.reg [⟨(some 50),(.q (.bin .lss (.p .int) (.t 49) (.t 48))),none,0⟩])
(.seq (.cond (.t 50) .skip (.exit 2))
(.seq (.block 3 (.seq (.reg [⟨(some 51),(.q (.iaddr (.slice 6) (.t 47) (.t 49))),none,0⟩,
⟨(some 52),(.q (.ld true 6 (.t 51))),none,0⟩,
⟨(some 7),(.a (.alloc 75 [(.int .i64 (.ofNat 0)),(.int .i64 (.ofNat 0)),(.int .i64 (.ofNat 0)),.nilsl,.nilsl,.nilsl])),none,0⟩,
⟨none,(.x (.st 6 (.t 7) (.t 52))),none,0⟩])
(.seq (.drw [⟨(some 53),(.q (.faddr 0 (.t 7))),none,0⟩,
⟨(some 54),(.q (.ld false 1 (.t 53))),none,1⟩,
⟨(some 55),(.q (.bin .eql (.p .int) (.t 54) (.c (.int .i64 (.ofNat 2))))),none,3⟩,
⟨(some 56),(.q (.mv (.t 55))),none,7⟩,
⟨(some 57),(.q (.mv (.t 0))),(some (56,true)),15⟩,
⟨(some 58),(.q (.nilchk (.t 57))),(some (56,true)),31⟩,
⟨(some 59),(.q (.faddr 0 (.t 58))),(some (56,true)),63⟩,
⟨(some 60),(.q (.faddr 2 (.t 59))),(some (56,true)),127⟩,
⟨(some 61),(.q (.ld false 1 (.t 60))),(some (56,true)),255⟩,
⟨(some 62),(.q (.faddr 2 (.t 7))),(some (56,true)),15⟩,
⟨(some 63),(.q (.ld false 1 (.t 62))),(some (56,true)),527⟩,
⟨(some 64),(.q (.iaddr (.slice 2) (.t 61) (.t 63))),(some (56,true)),2047⟩,
⟨(some 65),(.q (.ld true 2 (.t 64))),(some (56,true)),4095⟩,
⟨(some 66),(.q (.faddr 1 (.t 7))),(some (56,true)),15⟩,
⟨(some 67),(.q (.ld false 1 (.t 66))),(some (56,true)),8207⟩,
⟨(some 68),(.q (.faddr 3 (.t 7))),(some (56,true)),15⟩,
⟨(some 69),(.q (.ld false 1 (.t 68))),(some (56,true)),32783⟩,
⟨(some 70),(.q (.lenSl (.t 69))),(some (56,true)),98319⟩,
⟨(some 71),(.q (.build [(.int .i64 (.ofNat 0)),(.int .i64 (.ofNat 0))] [(0,1,(.t 67)),(1,1,(.t 70))])),(some (56,true)),253967⟩,
⟨(some 72),(.q (.bin .neq (.struct [(0,.int),(1,.int)]) (.t 65) (.t 71))),(some (56,true)),524287⟩,
⟨(some 73),(.q (.pick (.t 56) (.t 72) (.c (.bool false)))),none,1048575⟩])
(.cond (.t 73) (.seq (.reg [⟨(some 2),(.q (.mv (.c (.int .i64 (.ofNat 10))))),none,0⟩])
.ret) .skip))))
(.reg [⟨(some 74),(.q (.bin .add (.p .int) (.t 49) (.c (.int .i64 (.ofNat 1))))),none,0⟩,
⟨(some 49),(.q (.mv (.t 74))),none,0⟩])))))))
(.seq (.seq (.reg [⟨(some 75),(.q (.mv (.t 3))),none,0⟩,
⟨(some 76),(.x (.call (.c (.fn 195 [] [])) [(.t 75),(.c (.int .i64 (.ofNat 0)))])),none,0⟩])
(.cond (.t 76) (.seq (.reg [⟨(some 2),(.q (.mv (.c (.int .i64 (.ofNat 18))))),none,0⟩])
.ret) .skip))
(.seq (.seq (.reg [⟨(some 77),(.q (.mv (.t 3))),none,0⟩,
⟨(some 78),(.x (.call (.c (.fn 196 [] [])) [(.t 77)])),none,0⟩,
⟨(some 79),(.q (.un .not (.t 78))),none,0⟩])
(.cond (.t 79) (.seq (.reg [⟨(some 2),(.q (.mv (.c (.int .i64 (.ofNat 9))))),none,0⟩])
.ret) .skip))
(.seq (.reg [⟨(some 2),(.q (.mv (.c (.int .i64 (.ofNat 0))))),none,0⟩])
.ret)))))))⟩
theorem row153 : Row Tryz.prog (153, a153) := ⟨Tryz.f153, Tryz.func153, by kernel_rfl⟩
noncomputable def a154 : AFn :=
⟨134,[],(.seq (.reg [⟨(some 8),(.q (.mv (.c (.bool true)))),none,0⟩])
(.seq (.reg [⟨(some 9),(.q (.mv (.c (.bool true)))),none,0⟩])
(.block 0 (.loop (.block 1 (.seq (.reg [⟨(some 19),(.q (.mv (.t 2))),none,0⟩,
⟨(some 20),(.q (.mv (.t 1))),none,0⟩,
⟨(some 21),(.q (.bin .sub (.p .int) (.t 19) (.t 20))),none,0⟩,
⟨(some 10),(.q (.mv (.t 21))),none,0⟩])
(.seq (.seq (.reg [⟨(some 22),(.q (.mv (.t 10))),none,0⟩,
⟨(some 23),(.q (.bin .leq (.p .int) (.t 22) (.c (.int .i64 (.ofNat 12))))),none,0⟩])
(.cond (.t 23) (.seq (.reg [⟨(some 24),(.q (.mv (.t 0))),none,0⟩,
⟨(some 25),(.q (.mv (.t 1))),none,0⟩,
⟨(some 26),(.q (.mv (.t 2))),none,0⟩,
⟨(some 27),(.x (.call (.c (.fn 197 [] [])) [(.t 24),(.t 25),(.t 26)])),none,0⟩])
.ret) .skip))
(.seq (.seq (.reg [⟨(some 28),(.q (.mv (.t 3))),none,0⟩,
⟨(some 29),(.q (.bin .eql (.p .int) (.t 28) (.c (.int .i64 (.ofNat 0))))),none,0⟩])
(.cond (.t 29) (.seq (.reg [⟨(some 30),(.q (.mv (.t 0))),none,0⟩,
⟨(some 31),(.q (.mv (.t 1))),none,0⟩,
⟨(some 32),(.q (.mv (.t 2))),none,0⟩,
⟨(some 33),(.x (.call (.c (.fn 198 [] [])) [(.t 30),(.t 31),(.t 32)])),none,0⟩])
.ret) .skip))
(.seq (.seq (.reg [⟨(some 34),(.q (.mv (.t 8))),none,0⟩,
⟨(some 35),(.q (.un .not (.t 34))),none,0⟩])
(.cond (.t 35) (.seq (.reg [⟨(some 36),(.q (.mv (.t 0))),none,0⟩,
⟨(some 37),(.q (.mv (.t 1))),none,0⟩,
⟨(some 38),(.q (.mv (.t 2))),none,0⟩,
⟨(some 39),(.x (.call (.c (.fn 199 [] [])) [(.t 36),(.t 37),(.t 38)])),none,0⟩])
(.reg [⟨(some 40),(.q (.mv (.t 3))),none,0⟩,
⟨(some 41),(.q (.bin .sub (.p .int) (.t 40) (.c (.int .i64 (.ofNat 1))))),none,0⟩,
⟨(some 3),(.q (.mv (.t 41))),none,0⟩])) .skip))
(.seq (.reg [⟨(some 43),(.q (.mv (.t 0))),none,0⟩,
⟨(some 44),(.q (.mv (.t 1))),none,0⟩,
⟨(some 45),(.q (.mv (.t 2))),none,0⟩,
⟨(some 46),(.x (.call (.c (.fn 200 [] [])) [(.t 43),(.t 44),(.t 45)])),none,0⟩,
⟨(some 42),(.q (.mv (.t 46))),none,0⟩,
⟨(some 47),(.q (.extract (.t 42) 0)),none,0⟩,
⟨(some 48),(.q (.extract (.t 42) 1)),none,0⟩,
⟨(some 11),(.q (.mv (.t 47))),none,0⟩,
⟨(some 12),(.q (.mv (.t 48))),none,0⟩])
(.seq (.seq (.reg [⟨(some 49),(.q (.mv (.t 12))),none,0⟩,
⟨(some 50),(.q (.bin .eql (.p .int) (.t 49) (.c (.int .i64 (.ofNat 2))))),none,0⟩])
(.cond (.t 50) (.seq (.reg [⟨(some 51),(.q (.mv (.t 0))),none,0⟩,
⟨(some 52),(.q (.mv (.t 1))),none,0⟩,
⟨(some 53),(.q (.mv (.t 2))),none,0⟩,
⟨(some 54),(.x (.call (.c (.fn 201 [] [])) [(.t 51),(.t 52),(.t 53)])),none,0⟩])
(.seq (.reg [⟨(some 55),(.q (.mv (.t 2))),none,0⟩,
⟨(some 56),(.q (.bin .sub (.p .int) (.t 55) (.c (.int .i64 (.ofNat 1))))),none,0⟩,
⟨(some 57),(.q (.mv (.t 11))),none,0⟩,
⟨(some 58),(.q (.mv (.t 1))),none,0⟩,
⟨(some 59),(.q (.bin .sub (.p .int) (.t 57) (.t 58))),none,0⟩,
⟨(some 60),(.q (.bin .sub (.p .int) (.t 56) (.t 59))),none,0⟩,
⟨(some 11),(.q (.mv (.t 60))),none,0⟩])
(.reg [⟨(some 12),(.q (.mv (.c (.int .i64 (.ofNat 1))))),none,0⟩]))) .skip))
(.seq (.seq (.reg [⟨(some 61),(.q (.mv (.t 8))),none,0⟩,
⟨(some 62),(.q (.mv (.t 61))),none,0⟩,
⟨(some 63),(.q (.mv (.t 9))),(some (62,true)),0⟩,
⟨(some 64),(.q (.pick (.t 62) (.t 63) (.c (.bool false)))),none,0⟩,
⟨(some 65),(.q (.mv (.t 64))),none,0⟩,
⟨(some 66),(.q (.mv (.t 12))),(some (65,true)),0⟩,
⟨(some 67),(.q (.bin .eql (.p .int) (.t 66) (.c (.int .i64 (.ofNat 1))))),(some (65,true)),0⟩,
⟨(some 68),(.q (.pick (.t 65) (.t 67) (.c (.bool false)))),none,0⟩])
(.cond (.t 68) (.seq (.reg [⟨(some 69),(.q (.mv (.t 0))),none,0⟩,
⟨(some 70),(.q (.mv (.t 1))),none,0⟩,
⟨(some 71),(.q (.mv (.t 2))),none,0⟩,
⟨(some 72),(.x (.call (.c (.fn 202 [] [])) [(.t 69),(.t 70),(.t 71)])),none,0⟩])
(.cond (.t 72) .ret .skip)) .skip))
(.seq (.seq (.drw [⟨(some 73),(.q (.mv (.t 1))),none,0⟩,
⟨(some 74),(.q (.bin .gtr (.p .int) (.t 73) (.c (.int .i64 (.ofNat 0))))),none,1⟩,
⟨(some 75),(.q (.mv (.t 74))),none,3⟩,
⟨(some 76),(.q (.mv (.t 0))),(some (75,true)),7⟩,
⟨(some 77),(.q (.mv (.t 1))),(some (75,true)),7⟩,
⟨(some 78),(.q (.bin .sub (.p .int) (.t 77) (.c (.int .i64 (.ofNat 1))))),(some (75,true)),23⟩,
⟨(some 79),(.q (.iaddr (.slice 1) (.t 76) (.t 78))),(some (75,true)),63⟩,
⟨(some 80),(.q (.ld false 1 (.t 79))),(some (75,true)),127⟩,
⟨(some 81),(.q (.mv (.t 0))),(some (75,true)),7⟩,
⟨(some 82),(.q (.mv (.t 11))),(some (75,true)),7⟩,
⟨(some 83),(.q (.iaddr (.slice 1) (.t 81) (.t 82))),(some (75,true)),775⟩,
⟨(some 84),(.q (.ld false 1 (.t 83))),(some (75,true)),1799⟩,
⟨(some 85),(.x (.call (.c (.fn 203 [] [])) [(.t 80),(.t 84)])),(some (75,true)),4095⟩,
⟨(some 86),(.q (.un .not (.t 85))),(some (75,true)),8191⟩,
⟨(some 87),(.q (.pick (.t 75) (.t 86) (.c (.bool false)))),none,16383⟩])
(.cond (.t 87) (.seq (.reg [⟨(some 88),(.q (.mv (.t 0))),none,0⟩,
⟨(some 89),(.q (.mv (.t 1))),none,0⟩,
⟨(some 90),(.q (.mv (.t 2))),none,0⟩,
⟨(some 91),(.q (.mv (.t 11))),none,0⟩,
⟨(some 92),(.x (.call (.c (.fn 204 [] [])) [(.t 88),(.t 89),(.t 90),(.t 91)])),none,0⟩,
⟨(some 13),(.q (.mv (.t 92))),none,0⟩])
(.seq (.reg [⟨(some 93),(.q (.mv (.t 13))),none,0⟩,
⟨(some 1),(.q (.mv (.t 93))),none,0⟩])
(.exit 1))) .skip))
(.seq (.reg [⟨(some 95),(.q (.mv (.t 0))),none,0⟩,
⟨(some 96),(.q (.mv (.t 1))),none,0⟩,
⟨(some 97),(.q (.mv (.t 2))),none,0⟩,
⟨(some 98),(.q (.mv (.t 11))),none,0⟩,
⟨(some 99),(.x (.call (.c (.fn 205 [] [])) [(.t 95),(.t 96),(.t 97),(.t 98)])),none,0⟩,
⟨(some 94),(.q (.mv (.t 99))),none,0⟩,
⟨(some 100),(.q (.extract (.t 94) 0)),none,0⟩,
⟨(some 101),(.q (.extract (.t 94) 1)),none,0⟩,
⟨(some 14),(.q (.mv (.t 100))),none,0⟩,
⟨(some 15),(.q (.mv (.t 101))),none,0⟩])
(.seq (.reg [⟨(some 102),(.q (.mv (.t 15))),none,0⟩,
⟨(some 9),(.q (.mv (.t 102))),none,0⟩])
(.seq (.reg [⟨(some 103),(.q (.mv (.t 14))),none,0⟩,
⟨(some 104),(.q (.mv (.t 1))),none,0⟩,
⟨(some 105),(.q (.bin .sub (.p .int) (.t 103) (.t 104))),none,0⟩,
⟨(some 106),(.q (.mv (.t 2))),none,0⟩,
⟨(some 107),(.q (.mv (.t 14))),none,0⟩,
⟨(some 108),(.q (.bin .sub (.p .int) (.t 106) (.t 107))),none,0⟩,
⟨(some 16),(.q (.mv (.t 105))),none,0⟩,
⟨(some 17),(.q (.mv (.t 108))),none,0⟩])
(.seq (.reg [⟨(some 109),(.q (.mv (.t 10))),none,0⟩,
⟨(some 110),(.q (.bin .quo (.p .int) (.t 109) (.c (.int .i64 (.ofNat 8))))),none,0⟩,
⟨(some 18),(.q (.mv (.t 110))),none,0⟩])
(.seq (.reg [⟨(some 111),(.q (.mv (.t 16))),none,0⟩,
⟨(some 112),(.q (.mv (.t 17))),none,0⟩,
⟨(some 113),(.q (.bin .lss (.p .int) (.t 111) (.t 112))),none,0⟩])
(.cond (.t 113) (.seq (.reg [⟨(some 114),(.q (.mv (.t 16))),none,0⟩,
⟨(some 115),(.q (.mv (.t 18))),none,0⟩,
⟨(some 116),(.q (.bin .geq (.p .int) (.t 114) (.t 115))),none,0⟩,
⟨(some 8),(.q (.mv (.t 116))),none,0⟩])
(.seq (.reg [⟨(some 117),(.q (.mv (.t 0))),none,0⟩,
⟨(some 118),(.q (.mv (.t 1))),none,0⟩,
⟨(some 119),(.q (.mv (.t 14))),none,0⟩,
⟨(some 120),(.q (.mv (.t 3))),none,0⟩,
⟨(some 121),(.x (.call (.c (.fn 154 [] [])) [(.t 117),(.t 118),(.t 119),(.t 120)])),none,0⟩])
(.reg [⟨(some 122),(.q (.mv (.t 14))),none,0⟩,
⟨(some 123),(.q (.bin .add (.p .int) (.t 122) (.c (.int .i64 (.ofNat 1))))),none,0⟩,
⟨(some 1),(.q (.mv (.t 123))),none,0⟩]))) (.seq (.reg [⟨(some 124),(.q (.mv (.t 17))),none,0⟩,
⟨(some 125),(.q (.mv (.t 18))),none,0⟩,
⟨(some 126),(.q (.bin .geq (.p .int) (.t 124) (.t 125))),none,0⟩,
⟨(some 8),(.q (.mv (.t 126))),none,0⟩])
(.seq (.reg [⟨(some 127),(.q (.mv (.t 0))),none,0⟩,
⟨(some 128),(.q (.mv (.t 14))),none,0⟩,
⟨(some 129),(.q (.bin .add (.p .int) (.t 128) (.c (.int .i64 (.ofNat 1))))),none,0⟩,
⟨(some 130),(.q (.mv (.t 2))),none,0⟩,
⟨(some 131),(.q (.mv (.t 3))),none,0⟩,
⟨(some 132),(.x (.call (.c (.fn 154 [] [])) [(.t 127),(.t 129),(.t 130),(.t 131)])),none,0⟩])
(.reg [⟨(some 133),(.q (.mv (.t 14))),none,0⟩,
⟨(some 2),(.q (.mv (.t 133))),none,0⟩]))))))))))))))))))))))⟩
theorem row154 : Row Tryz.prog (154, a154) := ⟨Tryz.f154, Tryz.func154, by kernel_rfl⟩
noncomputable def a155 : AFn :=
⟨8,[(.t 2)],(.seq (.reg [⟨(some 2),(.q (.mv (.c (.int .i64 (.ofNat 0))))),none,0⟩])
(.seq (.cond (.c (.bool false)) (.seq (.reg [⟨(some 3),(.q (.mv (.t 0))),none,0⟩,
⟨(some 4),(.q (.conv (.int .u32) (.t 3))),none,0⟩,
⟨(some 5),(.x (.call (.c (.fn 206 [] [])) [(.t 4)])),none,0⟩,
⟨(some 2),(.q (.mv (.t 5))),none,0⟩])
.ret) .skip)
(.seq (.reg [⟨(some 6),(.q (.mv (.t 0))),none,0⟩,
⟨(some 7),(.x (.call (.c (.fn 207 [] [])) [(.t 6)])),none,0⟩,
⟨(some 2),(.q (.mv (.t 7))),none,0⟩])
.ret)))⟩
theorem row155 : Row Tryz.prog (155, a155) := ⟨Tryz.f155, Tryz.func155, by kernel_rfl⟩
noncomputable def a156 : AFn :=
⟨15,[(.t 2)],(.seq (.reg [⟨(some 2),(.q (.mv (.c .nilsl))),none,0⟩])
(.seq (.reg [⟨(some 3),(.q (.mv (.c .nilsl))),none,0⟩])
(.seq (.block 0 (.loop (.seq (.seq (.reg [⟨(some 4),(.q (.mv (.t 0))),none,0⟩,
⟨(some 5),(.q (.bin .gtr (.p .int) (.t 4) (.c (.int .u64 (.ofNat 0))))),none,0⟩])
(.cond (.t 5) .skip (.exit 0)))
(.seq (.block 1 (.reg [⟨(some 8),(.q (.mv (.t 3))),none,0⟩,
⟨(some 9),(.q (.mv (.t 0))),none,0⟩,
⟨(some 10),(.q (.bin .rem (.p .int) (.t 9) (.c (.int .u64 (.ofNat 1000000000))))),none,0⟩,
⟨(some 11),(.q (.conv (.int .u32) (.t 10))),none,0⟩,
⟨(some 12),(.a (.bslice 149 1 1 [(.int .u32 (.ofNat 0))] [(0,(.t 11))])),none,0⟩,
⟨(some 13),(.x (.app 149 1 4 (.t 8) (.t 12))),none,0⟩,
⟨(some 3),(.q (.mv (.t 13))),none,0⟩]))
(.reg [⟨(some 6),(.q (.mv (.t 0))),none,0⟩,
⟨(some 7),(.q (.bin .quo (.p .int) (.t 6) (.c (.int .u64 (.ofNat 1000000000))))),none,0⟩,
⟨(some 0),(.q (.mv (.t 7))),none,0⟩])))))
(.seq (.reg [⟨(some 14),(.q (.mv (.t 3))),none,0⟩,
⟨(some 2),(.q (.mv (.t 14))),none,0⟩])
.ret))))⟩
theorem row156 : Row Tryz.prog (156, a156) := ⟨Tryz.f156, Tryz.func156, by kernel_rfl⟩
noncomputable def a157 : AFn :=
⟨14,[(.cell 4 true 3)],(.seq (.reg [⟨(some 2),(.a (.box 128 (.t 0))),none,0⟩,
⟨(some 3),(.a (.box 128 (.t 1))),none,0⟩,
⟨(some 4),(.a (.alloc 128 [(.bool false),.nilsl,.nilsl])),none,0⟩])
(.seq (.drw [⟨(some 5),(.q (.ld true 3 (.t 2))),none,0⟩,
⟨(some 6),(.q (.faddr 0 (.t 3))),none,0⟩,
⟨(some 7),(.q (.ld false 1 (.t 6))),none,2⟩,
⟨(some 8),(.q (.ld true 3 (.t 3))),none,0⟩,
⟨(some 9),(.x (.call (.c (.fn 161 [] [])) [(.t 8)])),none,8⟩,
⟨(some 10),(.q (.faddr 1 (.t 3))),none,0⟩,
⟨(some 11),(.q (.ld false 1 (.t 10))),none,32⟩,
⟨(some 12),(.x (.call (.c (.fn 160 [] [])) [(.t 7),(.t 9),(.t 11)])),none,126⟩,
⟨(some 13),(.x (.call (.c (.fn 120 [] [])) [(.t 5),(.t 12)])),none,255⟩,
⟨none,(.x (.st 3 (.t 4) (.t 13))),none,511⟩])
.ret))⟩
theorem row157 : Row Tryz.prog (157, a157) := ⟨Tryz.f157, Tryz.func157, by kernel_rfl⟩
noncomputable def a158 : AFn :=
⟨7,[(.t 2)],(.seq (.reg [⟨(some 1),(.a (.box 128 (.t 0))),none,0⟩,
⟨(some 2),(.q (.mv (.c (.bool false)))),none,0⟩])
(.seq (.reg [⟨(some 3),(.q (.faddr 1 (.t 1))),none,0⟩,
⟨(some 4),(.q (.ld false 1 (.t 3))),none,0⟩,
⟨(some 5),(.q (.lenSl (.t 4))),none,0⟩,
⟨(some 6),(.q (.bin .eql (.p .int) (.t 5) (.c (.int .i64 (.ofNat 0))))),none,0⟩,
⟨(some 2),(.q (.mv (.t 6))),none,0⟩])
.ret))⟩
theorem row158 : Row Tryz.prog (158, a158) := ⟨Tryz.f158, Tryz.func158, by kernel_rfl⟩
noncomputable def a159 : AFn :=
⟨31,[(.t 8),(.t 9)],(.seq (.reg [⟨(some 8),(.q (.mv (.c (.bool false)))),none,0⟩,
⟨(some 9),(.q (.mv (.c .nilsl))),none,0⟩])
(.seq (.block 0 (.seq (.reg [⟨(some 11),(.q (.mv (.t 0))),none,0⟩,
⟨(some 12),(.q (.mv (.t 2))),none,0⟩,
⟨(some 13),(.q (.bin .eql (.p .bool) (.t 11) (.t 12))),none,0⟩,
⟨(some 10),(.q (.mv (.t 13))),none,0⟩])
(.cond (.t 10) (.seq (.reg [⟨(some 14),(.q (.mv (.t 0))),none,0⟩,
⟨(some 15),(.q (.mv (.t 1))),none,0⟩,
⟨(some 16),(.q (.mv (.t 3))),none,0⟩,
⟨(some 17),(.x (.call (.c (.fn 208 [] [])) [(.t 15),(.t 16)])),none,0⟩,
⟨(some 8),(.q (.mv (.t 14))),none,0⟩,
⟨(some 9),(.q (.mv (.t 17))),none,0⟩])
.ret) (.seq (.reg [⟨(some 19),(.q (.mv (.t 1))),none,0⟩,
⟨(some 20),(.q (.mv (.t 3))),none,0⟩,
⟨(some 21),(.x (.call (.c (.fn 209 [] [])) [(.t 19),(.t 20)])),none,0⟩,
⟨(some 22),(.q (.bin .geq (.p .int) (.t 21) (.c (.int .i64 (.ofNat 0))))),none,0⟩,
⟨(some 18),(.q (.mv (.t 22))),none,0⟩])
(.cond (.t 18) (.seq (.reg [⟨(some 23),(.q (.mv (.t 0))),none,0⟩,
⟨(some 24),(.q (.mv (.t 1))),none,0⟩,
⟨(some 25),(.q (.mv (.t 3))),none,0⟩,
⟨(some 26),(.x (.call (.c (.fn 210 [] [])) [(.t 24),(.t 25)])),none,0⟩,
⟨(some 8),(.q (.mv (.t 23))),none,0⟩,
⟨(some 9),(.q (.mv (.t 26))),none,0⟩])
.ret) .skip)))))
(.seq (.reg [⟨(some 27),(.q (.mv (.t 2))),none,0⟩,
⟨(some 28),(.q (.mv (.t 3))),none,0⟩,
⟨(some 29),(.q (.mv (.t 1))),none,0⟩,
⟨(some 30),(.x (.call (.c (.fn 210 [] [])) [(.t 28),(.t 29)])),none,0⟩,
⟨(some 8),(.q (.mv (.t 27))),none,0⟩,
⟨(some 9),(.q (.mv (.t 30))),none,0⟩])
.ret)))⟩
theorem row159 : Row Tryz.prog (159, a159) := ⟨Tryz.f159, Tryz.func159, by kernel_rfl⟩
noncomputable def a160 : AFn :=
⟨17,[(.cell 6 true 3)],(.seq (.reg [⟨(some 6),(.a (.alloc 128 [(.bool false),.nilsl,.nilsl])),none,0⟩])
(.seq (.seq (.reg [⟨(some 7),(.q (.mv (.t 1))),none,0⟩,
⟨(some 8),(.q (.lenSl (.t 7))),none,0⟩,
⟨(some 9),(.q (.bin .eql (.p .int) (.t 8) (.c (.int .i64 (.ofNat 0))))),none,0⟩])
(.cond (.t 9) (.seq (.reg [⟨(some 10),(.q (.build [(.bool false),.nilsl,.nilsl] [])),none,0⟩,
⟨none,(.x (.st 3 (.t 6) (.t 10))),none,0⟩])
.ret) .skip))
(.seq (.seq (.reg [⟨(some 11),(.q (.mv (.t 2))),none,0⟩,
⟨(some 12),(.x (.call (.c (.fn 211 [] [])) [(.t 11)])),none,0⟩])
(.cond (.t 12) (.reg [⟨(some 2),(.q (.mv (.c .nilsl))),none,0⟩]) .skip))
(.seq (.reg [⟨(some 13),(.q (.mv (.t 0))),none,0⟩,
⟨(some 14),(.q (.mv (.t 1))),none,0⟩,
⟨(some 15),(.q (.mv (.t 2))),none,0⟩,
⟨(some 16),(.q (.build [(.bool false),.nilsl,.nilsl] [(0,1,(.t 13)),(1,1,(.t 14)),(2,1,(.t 15))])),none,0⟩,
⟨none,(.x (.st 3 (.t 6) (.t 16))),none,0⟩])
.ret))))⟩
theorem row160 : Row Tryz.prog (160, a160) := ⟨Tryz.f160, Tryz.func160, by kernel_rfl⟩
noncomputable def a161 : AFn :=
⟨10,[(.t 2)],(.seq (.reg [⟨(some 1),(.a (.box 128 (.t 0))),none,0⟩,
⟨(some 2),(.q (.mv (.c .nilsl))),none,0⟩])
(.seq (.seq (.reg [⟨(some 3),(.q (.faddr 2 (.t 1))),none,0⟩,
⟨(some 4),(.q (.ld false 1 (.t 3))),none,0⟩,
⟨(some 5),(.q (.lenSl (.t 4))),none,0⟩,
⟨(some 6),(.q (.bin .eql (.p .int) (.t 5) (.c (.int .i64 (.ofNat 0))))),none,0⟩])
(.cond (.t 6) (.seq (.reg [⟨(some 7),(.a (.bslice 149 1 1 [(.int .u32 (.ofNat 0))] [(0,(.c (.int .u32 (.ofNat 1))))])),none,0⟩,
⟨(some 2),(.q (.mv (.t 7))),none,0⟩])
.ret) .skip))
(.seq (.reg [⟨(some 8),(.q (.faddr 2 (.t 1))),none,0⟩,
⟨(some 9),(.q (.ld false 1 (.t 8))),none,0⟩,
⟨(some 2),(.q (.mv (.t 9))),none,0⟩])
.ret)))⟩
theorem row161 : Row Tryz.prog (161, a161) := ⟨Tryz.f161, Tryz.func161, by kernel_rfl⟩
noncomputable def a162 : AFn :=
⟨55,[(.t 4)],(.seq (.reg [⟨(some 4),(.q (.mv (.c .nilsl))),none,0⟩])
(.seq (.seq (.reg [⟨(some 12),(.q (.mv (.t 0))),none,0⟩,
⟨(some 13),(.q (.mv (.t 1))),none,0⟩,
⟨(some 14),(.x (.call (.c (.fn 209 [] [])) [(.t 12),(.t 13)])),none,0⟩,
⟨(some 15),(.q (.bin .lss (.p .int) (.t 14) (.c (.int .i64 (.ofNat 0))))),none,0⟩])
(.cond (.t 15) (.reg [⟨(some 16),(.q (.mv (.t 1))),none,0⟩,
⟨(some 17),(.q (.mv (.t 0))),none,0⟩,
⟨(some 0),(.q (.mv (.t 16))),none,0⟩,
⟨(some 1),(.q (.mv (.t 17))),none,0⟩]) .skip))
(.seq (.block 0 (.loop (.seq (.seq (.reg [⟨(some 18),(.q (.mv (.t 0))),none,0⟩,
⟨(some 19),(.q (.lenSl (.t 18))),none,0⟩,
⟨(some 20),(.q (.bin .gtr (.p .int) (.t 19) (.c (.int .i64 (.ofNat 2))))),none,0⟩])
(.cond (.t 20) .skip (.exit 0)))
(.block 1 (.seq (.seq (.reg [⟨(some 21),(.q (.mv (.t 1))),none,0⟩,
⟨(some 22),(.q (.lenSl (.t 21))),none,0⟩,
⟨(some 23),(.q (.bin .eql (.p .int) (.t 22) (.c (.int .i64 (.ofNat 0))))),none,0⟩])
(.cond (.t 23) (.seq (.reg [⟨(some 24),(.q (.mv (.t 0))),none,0⟩,
⟨(some 4),(.q (.mv (.t 24))),none,0⟩])
.ret) .skip))
(.seq (.seq (.reg [⟨(some 26),(.q (.mv (.t 0))),none,0⟩,
⟨(some 27),(.q (.mv (.t 1))),none,0⟩,
⟨(some 28),(.x (.call (.c (.fn 212 [] [])) [(.t 26),(.t 27)])),none,0⟩,
⟨(some 25),(.q (.mv (.t 28))),none,0⟩,
⟨(some 29),(.q (.extract (.t 25) 0)),none,0⟩,
⟨(some 30),(.q (.extract (.t 25) 1)),none,0⟩,
⟨(some 31),(.q (.extract (.t 25) 2)),none,0⟩,
⟨(some 5),(.q (.mv (.t 29))),none,0⟩,
⟨(some 6),(.q (.mv (.t 30))),none,0⟩,
⟨(some 7),(.q (.mv (.t 31))),none,0⟩])
(.seq (.reg [⟨(some 32),(.q (.mv (.t 7))),none,0⟩])
(.cond (.t 32) (.seq (.reg [⟨(some 33),(.q (.mv (.t 5))),none,0⟩,
⟨(some 34),(.q (.mv (.t 6))),none,0⟩,
⟨(some 0),(.q (.mv (.t 33))),none,0⟩,
⟨(some 1),(.q (.mv (.t 34))),none,0⟩])
(.exit 1)) .skip)))
(.seq (.reg [⟨(some 36),(.q (.mv (.t 0))),none,0⟩,
⟨(some 37),(.q (.mv (.t 1))),none,0⟩,
⟨(some 38),(.x (.call (.c (.fn 213 [] [])) [(.t 36),(.t 37)])),none,0⟩,
⟨(some 35),(.q (.mv (.t 38))),none,0⟩,
⟨(some 39),(.q (.extract (.t 35) 0)),none,0⟩,
⟨(some 40),(.q (.extract (.t 35) 1)),none,0⟩,
⟨(some 8),(.q (.mv (.t 39))),none,0⟩,
⟨(some 9),(.q (.mv (.t 40))),none,0⟩])
(.reg [⟨(some 41),(.q (.mv (.t 1))),none,0⟩,
⟨(some 42),(.q (.mv (.t 9))),none,0⟩,
⟨(some 0),(.q (.mv (.t 41))),none,0⟩,
⟨(some 1),(.q (.mv (.t 42))),none,0⟩]))))))))
(.seq (.reg [⟨(some 43),(.q (.mv (.t 0))),none,0⟩,
⟨(some 44),(.x (.call (.c (.fn 214 [] [])) [(.t 43)])),none,0⟩,
⟨(some 45),(.q (.mv (.t 1))),none,0⟩,
⟨(some 46),(.x (.call (.c (.fn 214 [] [])) [(.t 45)])),none,0⟩,
⟨(some 10),(.q (.mv (.t 44))),none,0⟩,
⟨(some 11),(.q (.mv (.t 46))),none,0⟩])
(.seq (.block 2 (.loop (.seq (.seq (.reg [⟨(some 47),(.q (.mv (.t 11))),none,0⟩,
⟨(some 48),(.q (.bin .gtr (.p .int) (.t 47) (.c (.int .u64 (.ofNat 0))))),none,0⟩])
(.cond (.t 48) .skip (.exit 2)))
(.block 3 (.drw [⟨(some 49),(.q (.mv (.t 11))),none,0⟩,
⟨(some 50),(.q (.mv (.t 10))),none,0⟩,
⟨(some 51),(.q (.mv (.t 11))),none,0⟩,
⟨(some 52),(.q (.bin .rem (.p .int) (.t 50) (.t 51))),none,6⟩,
⟨(some 10),(.q (.mv (.t 49))),none,3⟩,
⟨(some 11),(.q (.mv (.t 52))),none,31⟩])))))
(.seq (.reg [⟨(some 53),(.q (.mv (.t 10))),none,0⟩,
⟨(some 54),(.x (.call (.c (.fn 156 [] [])) [(.t 53)])),none,0⟩,
⟨(some 4),(.q (.mv (.t 54))),none,0⟩])
.ret))))))⟩
theorem row162 : Row Tryz.prog (162, a162) := ⟨Tryz.f162, Tryz.func162, by kernel_rfl⟩
noncomputable def a163 : AFn :=
⟨17,[(.t 4)],(.seq (.reg [⟨(some 4),(.q (.mv (.c .nilsl))),none,0⟩])
(.seq (.seq (.reg [⟨(some 7),(.q (.mv (.t 1))),none,0⟩,
⟨(some 8),(.x (.call (.c (.fn 211 [] [])) [(.t 7)])),none,0⟩])
(.cond (.t 8) (.seq (.reg [⟨(some 9),(.q (.mv (.t 0))),none,0⟩,
⟨(some 4),(.q (.mv (.t 9))),none,0⟩])
.ret) .skip))
(.seq (.reg [⟨(some 11),(.q (.mv (.t 0))),none,0⟩,
⟨(some 12),(.q (.mv (.t 1))),none,0⟩,
⟨(some 13),(.x (.call (.c (.fn 213 [] [])) [(.t 11),(.t 12)])),none,0⟩,
⟨(some 10),(.q (.mv (.t 13))),none,0⟩,
⟨(some 14),(.q (.extract (.t 10) 0)),none,0⟩,
⟨(some 15),(.q (.extract (.t 10) 1)),none,0⟩,
⟨(some 5),(.q (.mv (.t 14))),none,0⟩,
⟨(some 6),(.q (.mv (.t 15))),none,0⟩])
(.seq (.reg [⟨(some 16),(.q (.mv (.t 5))),none,0⟩,
⟨(some 4),(.q (.mv (.t 16))),none,0⟩])
.ret))))⟩
theorem row163 : Row Tryz.prog (163, a163) := ⟨Tryz.f163, Tryz.func163, by kernel_rfl⟩
noncomputable def a164 : AFn :=
⟨86,[(.t 4)],(.seq (.reg [⟨(some 4),(.q (.mv (.c .nilsl))),none,0⟩])
(.seq (.block 0 (.seq (.reg [⟨(some 13),(.q (.mv (.t 0))),none,0⟩,
⟨(some 14),(.q (.lenSl (.t 13))),none,0⟩,
⟨(some 15),(.q (.bin .eql (.p .int) (.t 14) (.c (.int .i64 (.ofNat 0))))),none,0⟩,
⟨(some 16),(.q (.mv (.t 15))),none,0⟩,
⟨(some 17),(.q (.mv (.t 1))),(some (16,false)),0⟩,
⟨(some 18),(.q (.lenSl (.t 17))),(some (16,false)),0⟩,
⟨(some 19),(.q (.bin .eql (.p .int) (.t 18) (.c (.int .i64 (.ofNat 0))))),(some (16,false)),0⟩,
⟨(some 20),(.q (.pick (.t 16) (.c (.bool true)) (.t 19))),none,0⟩,
⟨(some 12),(.q (.mv (.t 20))),none,0⟩])
(.cond (.t 12) (.seq (.reg [⟨(some 4),(.q (.mv (.c .nilsl))),none,0⟩])
.ret) (.seq (.reg [⟨(some 22),(.q (.mv (.t 0))),none,0⟩,
⟨(some 23),(.x (.call (.c (.fn 211 [] [])) [(.t 22)])),none,0⟩,
⟨(some 21),(.q (.mv (.t 23))),none,0⟩])
(.cond (.t 21) (.seq (.reg [⟨(some 24),(.q (.mv (.t 1))),none,0⟩,
⟨(some 4),(.q (.mv (.t 24))),none,0⟩])
.ret) (.seq (.reg [⟨(some 26),(.q (.mv (.t 1))),none,0⟩,
⟨(some 27),(.x (.call (.c (.fn 211 [] [])) [(.t 26)])),none,0⟩,
⟨(some 25),(.q (.mv (.t 27))),none,0⟩])
(.cond (.t 25) (.seq (.reg [⟨(some 28),(.q (.mv (.t 0))),none,0⟩,
⟨(some 4),(.q (.mv (.t 28))),none,0⟩])
.ret) .skip)))))))
(.seq (.reg [⟨(some 29),(.q (.mv (.t 0))),none,0⟩,
⟨(some 30),(.q (.lenSl (.t 29))),none,0⟩,
⟨(some 31),(.q (.mv (.t 1))),none,0⟩,
⟨(some 32),(.q (.lenSl (.t 31))),none,0⟩,
⟨(some 33),(.q (.bin .add (.p .int) (.t 30) (.t 32))),none,0⟩,
⟨(some 34),(.a (.mkSlice 149 1 4 [(.int .u32 (.ofNat 0))] (.t 33) (.t 33))),none,0⟩,
⟨(some 5),(.q (.mv (.t 34))),none,0⟩])
(.seq (.seq (.reg [⟨(some 35),(.q (.mv (.t 0))),none,0⟩,
⟨(some 36),(.q (.lenSl (.t 35))),none,0⟩,
⟨(some 37),(.q (.mv (.c (.int .i64 (.ofNat 0))))),none,0⟩])
(.block 1 (.loop (.seq (.reg [⟨(some 38),(.q (.bin .lss (.p .int) (.t 37) (.t 36))),none,0⟩])
(.seq (.cond (.t 38) .skip (.exit 1))
(.seq (.block 2 (.seq (.reg [⟨(some 39),(.q (.mv (.t 37))),none,0⟩,
⟨(some 40),(.q (.iaddr (.slice 1) (.t 35) (.t 37))),none,0⟩,
⟨(some 41),(.q (.ld false 1 (.t 40))),none,0⟩,
⟨(some 6),(.q (.mv (.t 39))),none,0⟩,
⟨(some 7),(.q (.mv (.t 41))),none,0⟩])
(.seq (.reg [⟨(some 8),(.q (.mv (.c (.int .u64 (.ofNat 0))))),none,0⟩])
(.seq (.seq (.reg [⟨(some 42),(.q (.mv (.t 1))),none,0⟩,
⟨(some 43),(.q (.lenSl (.t 42))),none,0⟩,
⟨(some 44),(.q (.mv (.c (.int .i64 (.ofNat 0))))),none,0⟩])
(.block 3 (.loop (.seq (.reg [⟨(some 45),(.q (.bin .lss (.p .int) (.t 44) (.t 43))),none,0⟩])
(.seq (.cond (.t 45) .skip (.exit 3))
(.seq (.block 4 (.seq (.reg [⟨(some 46),(.q (.mv (.t 44))),none,0⟩,
⟨(some 47),(.q (.iaddr (.slice 1) (.t 42) (.t 44))),none,0⟩,
⟨(some 48),(.q (.ld false 1 (.t 47))),none,0⟩,
⟨(some 9),(.q (.mv (.t 46))),none,0⟩,
⟨(some 10),(.q (.mv (.t 48))),none,0⟩])
(.seq (.reg [⟨(some 49),(.q (.mv (.t 5))),none,0⟩,
⟨(some 50),(.q (.mv (.t 6))),none,0⟩,
⟨(some 51),(.q (.mv (.t 9))),none,0⟩,
⟨(some 52),(.q (.bin .add (.p .int) (.t 50) (.t 51))),none,0⟩,
⟨(some 53),(.q (.iaddr (.slice 1) (.t 49) (.t 52))),none,0⟩,
⟨(some 54),(.q (.ld false 1 (.t 53))),none,0⟩,
⟨(some 55),(.q (.conv (.int .u64) (.t 54))),none,0⟩,
⟨(some 56),(.q (.mv (.t 7))),none,0⟩,
⟨(some 57),(.q (.conv (.int .u64) (.t 56))),none,0⟩,
⟨(some 58),(.q (.mv (.t 10))),none,0⟩,
⟨(some 59),(.q (.conv (.int .u64) (.t 58))),none,0⟩,
⟨(some 60),(.q (.bin .mul (.p .int) (.t 57) (.t 59))),none,0⟩,
⟨(some 61),(.q (.bin .add (.p .int) (.t 55) (.t 60))),none,0⟩,
⟨(some 62),(.q (.mv (.t 8))),none,0⟩,
⟨(some 63),(.q (.bin .add (.p .int) (.t 61) (.t 62))),none,0⟩,
⟨(some 11),(.q (.mv (.t 63))),none,0⟩])
(.seq (.reg [⟨(some 64),(.q (.mv (.t 5))),none,0⟩,
⟨(some 65),(.q (.mv (.t 6))),none,0⟩,
⟨(some 66),(.q (.mv (.t 9))),none,0⟩,
⟨(some 67),(.q (.bin .add (.p .int) (.t 65) (.t 66))),none,0⟩,
⟨(some 68),(.q (.mv (.t 11))),none,0⟩,
⟨(some 69),(.q (.bin .rem (.p .int) (.t 68) (.c (.int .u64 (.ofNat 1000000000))))),none,0⟩,
⟨(some 70),(.q (.conv (.int .u32) (.t 69))),none,0⟩,
⟨(some 71),(.q (.iaddr (.slice 1) (.t 64) (.t 67))),none,0⟩,
⟨none,(.x (.st 1 (.t 71) (.t 70))),none,0⟩])
(.reg [⟨(some 72),(.q (.mv (.t 11))),none,0⟩,
⟨(some 73),(.q (.bin .quo (.p .int) (.t 72) (.c (.int .u64 (.ofNat 1000000000))))),none,0⟩,
⟨(some 8),(.q (.mv (.t 73))),none,0⟩])))))
(.reg [⟨(some 74),(.q (.bin .add (.p .int) (.t 44) (.c (.int .i64 (.ofNat 1))))),none,0⟩,
⟨(some 44),(.q (.mv (.t 74))),none,0⟩])))))))
(.reg [⟨(some 75),(.q (.mv (.t 5))),none,0⟩,
⟨(some 76),(.q (.mv (.t 6))),none,0⟩,
⟨(some 77),(.q (.mv (.t 1))),none,0⟩,
⟨(some 78),(.q (.lenSl (.t 77))),none,0⟩,
⟨(some 79),(.q (.bin .add (.p .int) (.t 76) (.t 78))),none,0⟩,
⟨(some 80),(.q (.mv (.t 8))),none,0⟩,
⟨(some 81),(.q (.conv (.int .u32) (.t 80))),none,0⟩,
⟨(some 82),(.q (.iaddr (.slice 1) (.t 75) (.t 79))),none,0⟩,
⟨none,(.x (.st 1 (.t 82) (.t 81))),none,0⟩])))))
(.reg [⟨(some 83),(.q (.bin .add (.p .int) (.t 37) (.c (.int .i64 (.ofNat 1))))),none,0⟩,
⟨(some 37),(.q (.mv (.t 83))),none,0⟩])))))))
(.seq (.reg [⟨(some 84),(.q (.mv (.t 5))),none,0⟩,
⟨(some 85),(.x (.call (.c (.fn 215 [] [])) [(.t 84)])),none,0⟩,
⟨(some 4),(.q (.mv (.t 85))),none,0⟩])
.ret)))))⟩
theorem row164 : Row Tryz.prog (164, a164) := ⟨Tryz.f164, Tryz.func164, by kernel_rfl⟩
noncomputable def a165 : AFn :=
⟨19,[(.t 4)],(.seq (.reg [⟨(some 4),(.q (.mv (.c .nilsl))),none,0⟩])
(.seq (.block 0 (.loop (.seq (.seq (.reg [⟨(some 7),(.q (.mv (.t 1))),none,0⟩,
⟨(some 8),(.q (.lenSl (.t 7))),none,0⟩,
⟨(some 9),(.q (.bin .gtr (.p .int) (.t 8) (.c (.int .i64 (.ofNat 0))))),none,0⟩])
(.cond (.t 9) .skip (.exit 0)))
(.block 1 (.seq (.reg [⟨(some 11),(.q (.mv (.t 0))),none,0⟩,
⟨(some 12),(.q (.mv (.t 1))),none,0⟩,
⟨(some 13),(.x (.call (.c (.fn 166 [] [])) [(.t 11),(.t 12)])),none,0⟩,
⟨(some 10),(.q (.mv (.t 13))),none,0⟩,
⟨(some 14),(.q (.extract (.t 10) 0)),none,0⟩,
⟨(some 15),(.q (.extract (.t 10) 1)),none,0⟩,
⟨(some 5),(.q (.mv (.t 14))),none,0⟩,
⟨(some 6),(.q (.mv (.t 15))),none,0⟩])
(.reg [⟨(some 16),(.q (.mv (.t 1))),none,0⟩,
⟨(some 17),(.q (.mv (.t 6))),none,0⟩,
⟨(some 0),(.q (.mv (.t 16))),none,0⟩,
⟨(some 1),(.q (.mv (.t 17))),none,0⟩]))))))
(.seq (.reg [⟨(some 18),(.q (.mv (.t 0))),none,0⟩,
⟨(some 4),(.q (.mv (.t 18))),none,0⟩])
.ret)))⟩
theorem row165 : Row Tryz.prog (165, a165) := ⟨Tryz.f165, Tryz.func165, by kernel_rfl⟩
noncomputable def a166 : AFn :=
⟨156,[(.t 4),(.t 5)],(.seq (.reg [⟨(some 4),(.q (.mv (.c .nilsl))),none,0⟩,
⟨(some 5),(.q (.mv (.c .nilsl))),none,0⟩])
(.seq (.seq (.reg [⟨(some 15),(.q (.mv (.t 0))),none,0⟩,
⟨(some 16),(.q (.mv (.t 1))),none,0⟩,
⟨(some 17),(.x (.call (.c (.fn 216 [] [])) [(.t 15),(.t 16)])),none,0⟩,
⟨(some 18),(.q (.bin .lss (.p .int) (.t 17) (.c (.int .i64 (.ofNat 0))))),none,0⟩])
(.cond (.t 18) (.seq (.reg [⟨(some 19),(.q (.mv (.t 0))),none,0⟩,
⟨(some 4),(.q (.mv (.c .nilsl))),none,0⟩,
⟨(some 5),(.q (.mv (.t 19))),none,0⟩])
.ret) .skip))
(.seq (.reg [⟨(some 20),(.q (.mv (.t 1))),none,0⟩,
⟨(some 21),(.q (.mv (.t 1))),none,0⟩,
⟨(some 22),(.q (.lenSl (.t 21))),none,0⟩,
⟨(some 23),(.q (.bin .sub (.p .int) (.t 22) (.c (.int .i64 (.ofNat 1))))),none,0⟩,
⟨(some 24),(.q (.iaddr (.slice 1) (.t 20) (.t 23))),none,0⟩,
⟨(some 25),(.q (.ld false 1 (.t 24))),none,0⟩,
⟨(some 26),(.q (.conv (.int .u64) (.t 25))),none,0⟩,
⟨(some 27),(.q (.bin .add (.p .int) (.t 26) (.c (.int .u64 (.ofNat 1))))),none,0⟩,
⟨(some 28),(.q (.bin .quo (.p .int) (.c (.int .u64 (.ofNat 1000000000))) (.t 27))),none,0⟩,
⟨(some 29),(.q (.conv (.int .u32) (.t 28))),none,0⟩,
⟨(some 30),(.x (.call (.c (.fn 217 [] [])) [(.t 29)])),none,0⟩,
⟨(some 6),(.q (.mv (.t 30))),none,0⟩])
(.seq (.reg [⟨(some 31),(.q (.mv (.t 0))),none,0⟩,
⟨(some 32),(.q (.mv (.t 6))),none,0⟩,
⟨(some 33),(.x (.call (.c (.fn 218 [] [])) [(.t 31),(.t 32)])),none,0⟩,
⟨(some 34),(.q (.mv (.t 1))),none,0⟩,
⟨(some 35),(.q (.mv (.t 6))),none,0⟩,
⟨(some 36),(.x (.call (.c (.fn 218 [] [])) [(.t 34),(.t 35)])),none,0⟩,
⟨(some 0),(.q (.mv (.t 33))),none,0⟩,
⟨(some 1),(.q (.mv (.t 36))),none,0⟩])
(.seq (.reg [⟨(some 37),(.q (.mv (.t 1))),none,0⟩,
⟨(some 38),(.q (.mv (.t 1))),none,0⟩,
⟨(some 39),(.q (.lenSl (.t 38))),none,0⟩,
⟨(some 40),(.q (.bin .sub (.p .int) (.t 39) (.c (.int .i64 (.ofNat 1))))),none,0⟩,
⟨(some 41),(.q (.iaddr (.slice 1) (.t 37) (.t 40))),none,0⟩,
⟨(some 42),(.q (.ld false 1 (.t 41))),none,0⟩,
⟨(some 43),(.q (.conv (.int .u64) (.t 42))),none,0⟩,
⟨(some 7),(.q (.mv (.t 43))),none,0⟩])
(.seq (.reg [⟨(some 44),(.q (.mv (.t 1))),none,0⟩,
⟨(some 45),(.q (.lenSl (.t 44))),none,0⟩,
⟨(some 8),(.q (.mv (.t 45))),none,0⟩])
(.seq (.drw [⟨(some 46),(.q (.mv (.t 0))),none,0⟩,
⟨(some 47),(.q (.lenSl (.t 46))),none,1⟩,
⟨(some 48),(.q (.mv (.t 8))),none,0⟩,
⟨(some 49),(.q (.bin .sub (.p .int) (.t 47) (.t 48))),none,7⟩,
⟨(some 50),(.q (.bin .add (.p .int) (.t 49) (.c (.int .i64 (.ofNat 1))))),none,15⟩,
⟨(some 51),(.a (.mkSlice 149 1 4 [(.int .u32 (.ofNat 0))] (.t 50) (.t 50))),none,31⟩,
⟨(some 52),(.q (.mv (.t 5))),none,0⟩,
⟨(some 53),(.q (.mv (.t 0))),none,0⟩,
⟨(some 54),(.q (.mv (.t 0))),none,0⟩,
⟨(some 55),(.q (.lenSl (.t 54))),none,256⟩,
⟨(some 56),(.q (.mv (.t 8))),none,0⟩,
⟨(some 57),(.q (.bin .sub (.p .int) (.t 55) (.t 56))),none,1792⟩,
⟨(some 58),(.q (.bin .add (.p .int) (.t 57) (.c (.int .i64 (.ofNat 1))))),none,3840⟩,
⟨(some 59),(.q (.slc (.slice 1) (.t 53) (some (.t 58)) none none)),none,8064⟩,
⟨(some 60),(.x (.app 149 1 4 (.t 52) (.t 59))),none,16320⟩,
⟨(some 4),(.q (.mv (.t 51))),none,32767⟩,
⟨(some 5),(.q (.mv (.t 60))),none,65535⟩])
(.seq (.seq (.reg [⟨(some 61),(.q (.mv (.t 0))),none,0⟩,
⟨(some 62),(.q (.lenSl (.t 61))),none,0⟩,
⟨(some 63),(.q (.mv (.t 8))),none,0⟩,
⟨(some 64),(.q (.bin .sub (.p .int) (.t 62) (.t 63))),none,0⟩,
⟨(some 9),(.q (.mv (.t 64))),none,0⟩])
(.block 0 (.loop (.seq (.seq (.reg [⟨(some 65),(.q (.mv (.t 9))),none,0⟩,
⟨(some 66),(.q (.bin .geq (.p .int) (.t 65) (.c (.int .i64 (.ofNat 0))))),none,0⟩])
(.cond (.t 66) .skip (.exit 0)))
(.seq (.block 1 (.seq (.reg [⟨(some 69),(.q (.mv (.t 0))),none,0⟩,
⟨(some 70),(.q (.mv (.t 9))),none,0⟩,
⟨(some 71),(.q (.iaddr (.slice 1) (.t 69) (.t 70))),none,0⟩,
⟨(some 72),(.q (.ld false 1 (.t 71))),none,0⟩,
⟨(some 73),(.a (.bslice 149 1 1 [(.int .u32 (.ofNat 0))] [(0,(.t 72))])),none,0⟩,
⟨(some 74),(.q (.mv (.t 5))),none,0⟩,
⟨(some 75),(.x (.app 149 1 4 (.t 73) (.t 74))),none,0⟩,
⟨(some 76),(.x (.call (.c (.fn 219 [] [])) [(.t 75)])),none,0⟩,
⟨(some 5),(.q (.mv (.t 76))),none,0⟩])
(.seq (.reg [⟨(some 10),(.q (.mv (.c (.int .u64 (.ofNat 0))))),none,0⟩])
(.seq (.seq (.reg [⟨(some 77),(.q (.mv (.t 5))),none,0⟩,
⟨(some 78),(.q (.lenSl (.t 77))),none,0⟩,
⟨(some 79),(.q (.bin .sub (.p .int) (.t 78) (.c (.int .i64 (.ofNat 1))))),none,0⟩,
⟨(some 11),(.q (.mv (.t 79))),none,0⟩])
(.block 2 (.loop (.seq (.seq (.reg [⟨(some 80),(.q (.mv (.t 11))),none,0⟩,
⟨(some 81),(.q (.mv (.t 1))),none,0⟩,
⟨(some 82),(.q (.lenSl (.t 81))),none,0⟩,
⟨(some 83),(.q (.bin .sub (.p .int) (.t 82) (.c (.int .i64 (.ofNat 1))))),none,0⟩,
⟨(some 84),(.q (.bin .geq (.p .int) (.t 80) (.t 83))),none,0⟩])
(.cond (.t 84) .skip (.exit 2)))
(.seq (.block 3 (.reg [⟨(some 87),(.q (.mv (.t 10))),none,0⟩,
⟨(some 88),(.q (.bin .mul (.p .int) (.t 87) (.c (.int .u64 (.ofNat 1000000000))))),none,0⟩,
⟨(some 89),(.q (.mv (.t 5))),none,0⟩,
⟨(some 90),(.q (.mv (.t 11))),none,0⟩,
⟨(some 91),(.q (.iaddr (.slice 1) (.t 89) (.t 90))),none,0⟩,
⟨(some 92),(.q (.ld false 1 (.t 91))),none,0⟩,
⟨(some 93),(.q (.conv (.int .u64) (.t 92))),none,0⟩,
⟨(some 94),(.q (.bin .add (.p .int) (.t 88) (.t 93))),none,0⟩,
⟨(some 10),(.q (.mv (.t 94))),none,0⟩]))
(.reg [⟨(some 85),(.q (.mv (.t 11))),none,0⟩,
⟨(some 86),(.q (.bin .sub (.p .int) (.t 85) (.c (.int .i64 (.ofNat 1))))),none,0⟩,
⟨(some 11),(.q (.mv (.t 86))),none,0⟩]))))))
(.seq (.reg [⟨(some 95),(.q (.mv (.t 10))),none,0⟩,
⟨(some 96),(.q (.mv (.t 7))),none,0⟩,
⟨(some 97),(.q (.bin .quo (.p .int) (.t 95) (.t 96))),none,0⟩,
⟨(some 98),(.q (.minmax false [(.t 97),(.c (.int .u64 (.ofNat 999999999)))])),none,0⟩,
⟨(some 12),(.q (.mv (.t 98))),none,0⟩])
(.seq (.block 4 (.loop (.seq (.seq (.reg [⟨(some 99),(.q (.mv (.t 1))),none,0⟩,
⟨(some 100),(.q (.mv (.t 12))),none,0⟩,
⟨(some 101),(.q (.conv (.int .u32) (.t 100))),none,0⟩,
⟨(some 102),(.x (.call (.c (.fn 217 [] [])) [(.t 101)])),none,0⟩,
⟨(some 103),(.x (.call (.c (.fn 218 [] [])) [(.t 99),(.t 102)])),none,0⟩,
⟨(some 104),(.q (.mv (.t 5))),none,0⟩,
⟨(some 105),(.x (.call (.c (.fn 216 [] [])) [(.t 103),(.t 104)])),none,0⟩,
⟨(some 106),(.q (.bin .gtr (.p .int) (.t 105) (.c (.int .i64 (.ofNat 0))))),none,0⟩])
(.cond (.t 106) .skip (.exit 4)))
(.block 5 (.reg [⟨(some 107),(.q (.mv (.t 12))),none,0⟩,
⟨(some 108),(.q (.bin .sub (.p .int) (.t 107) (.c (.int .u64 (.ofNat 1))))),none,0⟩,
⟨(some 12),(.q (.mv (.t 108))),none,0⟩])))))
(.reg [⟨(some 109),(.q (.mv (.t 4))),none,0⟩,
⟨(some 110),(.q (.mv (.t 9))),none,0⟩,
⟨(some 111),(.q (.mv (.t 5))),none,0⟩,
⟨(some 112),(.q (.mv (.t 1))),none,0⟩,
⟨(some 113),(.q (.mv (.t 12))),none,0⟩,
⟨(some 114),(.q (.conv (.int .u32) (.t 113))),none,0⟩,
⟨(some 115),(.x (.call (.c (.fn 217 [] [])) [(.t 114)])),none,0⟩,
⟨(some 116),(.x (.call (.c (.fn 218 [] [])) [(.t 112),(.t 115)])),none,0⟩,
⟨(some 117),(.x (.call (.c (.fn 220 [] [])) [(.t 111),(.t 116)])),none,0⟩,
⟨(some 118),(.q (.mv (.t 12))),none,0⟩,
⟨(some 119),(.q (.conv (.int .u32) (.t 118))),none,0⟩,
⟨(some 5),(.q (.mv (.t 117))),none,0⟩,
⟨(some 120),(.q (.iaddr (.slice 1) (.t 109) (.t 110))),none,0⟩,
⟨none,(.x (.st 1 (.t 120) (.t 119))),none,0⟩])))))))
(.reg [⟨(some 67),(.q (.mv (.t 9))),none,0⟩,
⟨(some 68),(.q (.bin .sub (.p .int) (.t 67) (.c (.int .i64 (.ofNat 1))))),none,0⟩,
⟨(some 9),(.q (.mv (.t 68))),none,0⟩]))))))
(.seq (.reg [⟨(some 13),(.q (.mv (.c (.int .u64 (.ofNat 0))))),none,0⟩])
(.seq (.seq (.reg [⟨(some 121),(.q (.mv (.t 5))),none,0⟩,
⟨(some 122),(.q (.lenSl (.t 121))),none,0⟩,
⟨(some 123),(.q (.bin .sub (.p .int) (.t 122) (.c (.int .i64 (.ofNat 1))))),none,0⟩,
⟨(some 14),(.q (.mv (.t 123))),none,0⟩])
(.block 6 (.loop (.seq (.seq (.reg [⟨(some 124),(.q (.mv (.t 14))),none,0⟩,
⟨(some 125),(.q (.bin .geq (.p .int) (.t 124) (.c (.int .i64 (.ofNat 0))))),none,0⟩])
(.cond (.t 125) .skip (.exit 6)))
(.seq (.block 7 (.seq (.reg [⟨(some 128),(.q (.mv (.t 13))),none,0⟩,
⟨(some 129),(.q (.bin .mul (.p .int) (.t 128) (.c (.int .u64 (.ofNat 1000000000))))),none,0⟩,
⟨(some 130),(.q (.mv (.t 5))),none,0⟩,
⟨(some 131),(.q (.mv (.t 14))),none,0⟩,
⟨(some 132),(.q (.iaddr (.slice 1) (.t 130) (.t 131))),none,0⟩,
⟨(some 133),(.q (.ld false 1 (.t 132))),none,0⟩,
⟨(some 134),(.q (.conv (.int .u64) (.t 133))),none,0⟩,
⟨(some 135),(.q (.bin .add (.p .int) (.t 129) (.t 134))),none,0⟩,
⟨(some 13),(.q (.mv (.t 135))),none,0⟩])
(.seq (.reg [⟨(some 136),(.q (.mv (.t 5))),none,0⟩,
⟨(some 137),(.q (.mv (.t 14))),none,0⟩,
⟨(some 138),(.q (.mv (.t 13))),none,0⟩,
⟨(some 139),(.q (.mv (.t 6))),none,0⟩,
⟨(some 140),(.q (.iaddr (.slice 1) (.t 139) (.c (.int .i64 (.ofNat 0))))),none,0⟩,
⟨(some 141),(.q (.ld false 1 (.t 140))),none,0⟩,
⟨(some 142),(.q (.conv (.int .u64) (.t 141))),none,0⟩,
⟨(some 143),(.q (.bin .quo (.p .int) (.t 138) (.t 142))),none,0⟩,
⟨(some 144),(.q (.conv (.int .u32) (.t 143))),none,0⟩,
⟨(some 145),(.q (.iaddr (.slice 1) (.t 136) (.t 137))),none,0⟩,
⟨none,(.x (.st 1 (.t 145) (.t 144))),none,0⟩])
(.reg [⟨(some 146),(.q (.mv (.t 13))),none,0⟩,
⟨(some 147),(.q (.mv (.t 6))),none,0⟩,
⟨(some 148),(.q (.iaddr (.slice 1) (.t 147) (.c (.int .i64 (.ofNat 0))))),none,0⟩,
⟨(some 149),(.q (.ld false 1 (.t 148))),none,0⟩,
⟨(some 150),(.q (.conv (.int .u64) (.t 149))),none,0⟩,
⟨(some 151),(.q (.bin .rem (.p .int) (.t 146) (.t 150))),none,0⟩,
⟨(some 13),(.q (.mv (.t 151))),none,0⟩]))))
(.reg [⟨(some 126),(.q (.mv (.t 14))),none,0⟩,
⟨(some 127),(.q (.bin .sub (.p .int) (.t 126) (.c (.int .i64 (.ofNat 1))))),none,0⟩,
⟨(some 14),(.q (.mv (.t 127))),none,0⟩]))))))
(.seq (.reg [⟨(some 152),(.q (.mv (.t 4))),none,0⟩,
⟨(some 153),(.x (.call (.c (.fn 219 [] [])) [(.t 152)])),none,0⟩,
⟨(some 154),(.q (.mv (.t 5))),none,0⟩,
⟨(some 155),(.x (.call (.c (.fn 219 [] [])) [(.t 154)])),none,0⟩,
⟨(some 4),(.q (.mv (.t 153))),none,0⟩,
⟨(some 5),(.q (.mv (.t 155))),none,0⟩])
.ret)))))))))))⟩
theorem row166 : Row Tryz.prog (166, a166) := ⟨Tryz.f166, Tryz.func166, by kernel_rfl⟩
noncomputable def a167 : AFn :=
⟨29,[(.t 2)],(.seq (.reg [⟨(some 2),(.q (.mv (.c (.int .i64 (.ofNat 0))))),none,0⟩])
(.seq (.seq (.reg [⟨(some 5),(.q (.mv (.t 0))),none,0⟩,
⟨(some 6),(.q (.lenSl (.t 5))),none,0⟩,
⟨(some 7),(.q (.bin .gtr (.p .int) (.t 6) (.c (.int .i64 (.ofNat 1024))))),none,0⟩])
(.cond (.t 7) (.seq (.reg [⟨(some 2),(.q (.mv (.c (.int .i64 (.ofNat 4))))),none,0⟩])
.ret) .skip))
(.seq (.seq (.reg [⟨(some 8),(.q (.mv (.t 0))),none,0⟩,
⟨(some 9),(.q (.lenSl (.t 8))),none,0⟩,
⟨(some 10),(.q (.mv (.c (.int .i64 (.ofNat 0))))),none,0⟩])
(.block 0 (.loop (.seq (.reg [⟨(some 11),(.q (.bin .lss (.p .int) (.t 10) (.t 9))),none,0⟩])
(.seq (.cond (.t 11) .skip (.exit 0))
(.seq (.block 1 (.seq (.reg [⟨(some 12),(.q (.iaddr (.slice 1) (.t 8) (.t 10))),none,0⟩,
⟨(some 13),(.q (.ld false 1 (.t 12))),none,0⟩,
⟨(some 4),(.q (.mv (.t 13))),none,0⟩])
(.seq (.reg [⟨(some 14),(.q (.mv (.t 4))),none,0⟩,
⟨(some 15),(.q (.bin .geq (.p .int) (.t 14) (.c (.int .u32 (.ofNat 1000000000))))),none,0⟩])
(.cond (.t 15) (.seq (.reg [⟨(some 2),(.q (.mv (.c (.int .i64 (.ofNat 3))))),none,0⟩])
.ret) .skip))))
(.reg [⟨(some 16),(.q (.bin .add (.p .int) (.t 10) (.c (.int .i64 (.ofNat 1))))),none,0⟩,
⟨(some 10),(.q (.mv (.t 16))),none,0⟩])))))))
(.seq (.seq (.reg [⟨(some 17),(.q (.mv (.t 0))),none,0⟩,
⟨(some 18),(.q (.lenSl (.t 17))),none,0⟩,
⟨(some 19),(.q (.bin .gtr (.p .int) (.t 18) (.c (.int .i64 (.ofNat 0))))),none,0⟩,
⟨(some 20),(.q (.mv (.t 19))),none,0⟩,
⟨(some 21),(.q (.mv (.t 0))),(some (20,true)),0⟩,
⟨(some 22),(.q (.mv (.t 0))),(some (20,true)),0⟩,
⟨(some 23),(.q (.lenSl (.t 22))),(some (20,true)),0⟩,
⟨(some 24),(.q (.bin .sub (.p .int) (.t 23) (.c (.int .i64 (.ofNat 1))))),(some (20,true)),0⟩,
⟨(some 25),(.q (.iaddr (.slice 1) (.t 21) (.t 24))),(some (20,true)),0⟩,
⟨(some 26),(.q (.ld false 1 (.t 25))),(some (20,true)),0⟩,
⟨(some 27),(.q (.bin .eql (.p .int) (.t 26) (.c (.int .u32 (.ofNat 0))))),(some (20,true)),0⟩,
⟨(some 28),(.q (.pick (.t 20) (.t 27) (.c (.bool false)))),none,0⟩])
(.cond (.t 28) (.seq (.reg [⟨(some 2),(.q (.mv (.c (.int .i64 (.ofNat 3))))),none,0⟩])
.ret) .skip))
(.seq (.reg [⟨(some 2),(.q (.mv (.c (.int .i64 (.ofNat 0))))),none,0⟩])
.ret)))))⟩
theorem row167 : Row Tryz.prog (167, a167) := ⟨Tryz.f167, Tryz.func167, by kernel_rfl⟩
noncomputable def a168 : AFn :=
⟨37,[(.t 4)],(.seq (.reg [⟨(some 4),(.q (.mv (.c (.int .u64 (.ofNat 0))))),none,0⟩])
(.seq (.seq (.reg [⟨(some 6),(.q (.mv (.t 0))),none,0⟩,
⟨(some 7),(.q (.bin .eql (.p .int) (.t 6) (.c (.int .u64 (.ofNat 0))))),none,0⟩])
(.cond (.t 7) (.seq (.reg [⟨(some 8),(.q (.mv (.t 1))),none,0⟩,
⟨(some 4),(.q (.mv (.t 8))),none,0⟩])
.ret) .skip))
(.seq (.seq (.reg [⟨(some 9),(.q (.mv (.t 1))),none,0⟩,
⟨(some 10),(.q (.bin .eql (.p .int) (.t 9) (.c (.int .u64 (.ofNat 0))))),none,0⟩])
(.cond (.t 10) (.seq (.reg [⟨(some 11),(.q (.mv (.t 0))),none,0⟩,
⟨(some 4),(.q (.mv (.t 11))),none,0⟩])
.ret) .skip))
(.seq (.reg [⟨(some 12),(.q (.mv (.t 0))),none,0⟩,
⟨(some 13),(.q (.mv (.t 1))),none,0⟩,
⟨(some 14),(.q (.bin .or (.p .int) (.t 12) (.t 13))),none,0⟩,
⟨(some 15),(.x (.call (.c (.fn 221 [] [])) [(.t 14)])),none,0⟩,
⟨(some 5),(.q (.mv (.t 15))),none,0⟩])
(.seq (.reg [⟨(some 16),(.q (.mv (.t 0))),none,0⟩,
⟨(some 17),(.q (.mv (.t 0))),none,0⟩,
⟨(some 18),(.x (.call (.c (.fn 221 [] [])) [(.t 17)])),none,0⟩,
⟨(some 19),(.q (.bin .shr (.p .int) (.t 16) (.t 18))),none,0⟩,
⟨(some 0),(.q (.mv (.t 19))),none,0⟩])
(.seq (.block 0 (.loop (.seq (.seq (.reg [⟨(some 20),(.q (.mv (.t 1))),none,0⟩,
⟨(some 21),(.q (.bin .neq (.p .int) (.t 20) (.c (.int .u64 (.ofNat 0))))),none,0⟩])
(.cond (.t 21) .skip (.exit 0)))
(.block 1 (.seq (.reg [⟨(some 22),(.q (.mv (.t 1))),none,0⟩,
⟨(some 23),(.q (.mv (.t 1))),none,0⟩,
⟨(some 24),(.x (.call (.c (.fn 221 [] [])) [(.t 23)])),none,0⟩,
⟨(some 25),(.q (.bin .shr (.p .int) (.t 22) (.t 24))),none,0⟩,
⟨(some 1),(.q (.mv (.t 25))),none,0⟩])
(.seq (.seq (.reg [⟨(some 26),(.q (.mv (.t 0))),none,0⟩,
⟨(some 27),(.q (.mv (.t 1))),none,0⟩,
⟨(some 28),(.q (.bin .gtr (.p .int) (.t 26) (.t 27))),none,0⟩])
(.cond (.t 28) (.reg [⟨(some 29),(.q (.mv (.t 1))),none,0⟩,
⟨(some 30),(.q (.mv (.t 0))),none,0⟩,
⟨(some 0),(.q (.mv (.t 29))),none,0⟩,
⟨(some 1),(.q (.mv (.t 30))),none,0⟩]) .skip))
(.reg [⟨(some 31),(.q (.mv (.t 1))),none,0⟩,
⟨(some 32),(.q (.mv (.t 0))),none,0⟩,
⟨(some 33),(.q (.bin .sub (.p .int) (.t 31) (.t 32))),none,0⟩,
⟨(some 1),(.q (.mv (.t 33))),none,0⟩])))))))
(.seq (.reg [⟨(some 34),(.q (.mv (.t 0))),none,0⟩,
⟨(some 35),(.q (.mv (.t 5))),none,0⟩,
⟨(some 36),(.q (.bin .shl (.p .int) (.t 34) (.t 35))),none,0⟩,
⟨(some 4),(.q (.mv (.t 36))),none,0⟩])
.ret)))))))⟩
theorem row168 : Row Tryz.prog (168, a168) := ⟨Tryz.f168, Tryz.func168, by kernel_rfl⟩
noncomputable def a169 : AFn :=
⟨21,[(.t 2)],(.seq (.reg [⟨(some 2),(.q (.mv (.c (.int .u64 (.ofNat 0))))),none,0⟩])
(.seq (.reg [⟨(some 3),(.q (.mv (.c (.int .u64 (.ofNat 0))))),none,0⟩])
(.seq (.seq (.reg [⟨(some 5),(.q (.mv (.t 0))),none,0⟩,
⟨(some 6),(.q (.lenSl (.t 5))),none,0⟩,
⟨(some 7),(.q (.bin .sub (.p .int) (.t 6) (.c (.int .i64 (.ofNat 1))))),none,0⟩,
⟨(some 4),(.q (.mv (.t 7))),none,0⟩])
(.block 0 (.loop (.seq (.seq (.reg [⟨(some 8),(.q (.mv (.t 4))),none,0⟩,
⟨(some 9),(.q (.bin .geq (.p .int) (.t 8) (.c (.int .i64 (.ofNat 0))))),none,0⟩])
(.cond (.t 9) .skip (.exit 0)))
(.seq (.block 1 (.reg [⟨(some 12),(.q (.mv (.t 3))),none,0⟩,
⟨(some 13),(.q (.bin .mul (.p .int) (.t 12) (.c (.int .u64 (.ofNat 1000000000))))),none,0⟩,
⟨(some 14),(.q (.mv (.t 0))),none,0⟩,
⟨(some 15),(.q (.mv (.t 4))),none,0⟩,
⟨(some 16),(.q (.iaddr (.slice 1) (.t 14) (.t 15))),none,0⟩,
⟨(some 17),(.q (.ld false 1 (.t 16))),none,0⟩,
⟨(some 18),(.q (.conv (.int .u64) (.t 17))),none,0⟩,
⟨(some 19),(.q (.bin .add (.p .int) (.t 13) (.t 18))),none,0⟩,
⟨(some 3),(.q (.mv (.t 19))),none,0⟩]))
(.reg [⟨(some 10),(.q (.mv (.t 4))),none,0⟩,
⟨(some 11),(.q (.bin .sub (.p .int) (.t 10) (.c (.int .i64 (.ofNat 1))))),none,0⟩,
⟨(some 4),(.q (.mv (.t 11))),none,0⟩]))))))
(.seq (.reg [⟨(some 20),(.q (.mv (.t 3))),none,0⟩,
⟨(some 2),(.q (.mv (.t 20))),none,0⟩])
.ret))))⟩
theorem row169 : Row Tryz.prog (169, a169) := ⟨Tryz.f169, Tryz.func169, by kernel_rfl⟩
noncomputable def a170 : AFn :=
⟨12,[(.t 2)],(.seq (.reg [⟨(some 2),(.q (.mv (.c (.bool false)))),none,0⟩])
(.seq (.reg [⟨(some 3),(.q (.mv (.t 0))),none,0⟩,
⟨(some 4),(.q (.lenSl (.t 3))),none,0⟩,
⟨(some 5),(.q (.bin .eql (.p .int) (.t 4) (.c (.int .i64 (.ofNat 1))))),none,0⟩,
⟨(some 6),(.q (.mv (.t 5))),none,0⟩,
⟨(some 7),(.q (.mv (.t 0))),(some (6,true)),0⟩,
⟨(some 8),(.q (.iaddr (.slice 1) (.t 7) (.c (.int .i64 (.ofNat 0))))),(some (6,true)),0⟩,
⟨(some 9),(.q (.ld false 1 (.t 8))),(some (6,true)),0⟩,
⟨(some 10),(.q (.bin .eql (.p .int) (.t 9) (.c (.int .u32 (.ofNat 1))))),(some (6,true)),0⟩,
⟨(some 11),(.q (.pick (.t 6) (.t 10) (.c (.bool false)))),none,0⟩,
⟨(some 2),(.q (.mv (.t 11))),none,0⟩])
.ret))⟩
theorem row170 : Row Tryz.prog (170, a170) := ⟨Tryz.f170, Tryz.func170, by kernel_rfl⟩
noncomputable def a171 : AFn :=
⟨91,[(.t 4)],(.seq (.reg [⟨(some 4),(.q (.mv (.c .nilsl))),none,0⟩])
(.seq (.seq (.reg [⟨(some 13),(.q (.mv (.t 0))),none,0⟩,
⟨(some 14),(.q (.lenSl (.t 13))),none,0⟩,
⟨(some 15),(.q (.bin .leq (.p .int) (.t 14) (.c (.int .i64 (.ofNat 2))))),none,0⟩,
⟨(some 16),(.q (.mv (.t 15))),none,0⟩,
⟨(some 17),(.q (.mv (.t 1))),(some (16,true)),0⟩,
⟨(some 18),(.q (.lenSl (.t 17))),(some (16,true)),0⟩,
⟨(some 19),(.q (.bin .leq (.p .int) (.t 18) (.c (.int .i64 (.ofNat 2))))),(some (16,true)),0⟩,
⟨(some 20),(.q (.pick (.t 16) (.t 19) (.c (.bool false)))),none,0⟩])
(.cond (.t 20) (.seq (.reg [⟨(some 21),(.q (.mv (.t 0))),none,0⟩,
⟨(some 22),(.x (.call (.c (.fn 169 [] [])) [(.t 21)])),none,0⟩,
⟨(some 23),(.q (.mv (.t 1))),none,0⟩,
⟨(some 24),(.x (.call (.c (.fn 169 [] [])) [(.t 23)])),none,0⟩,
⟨(some 25),(.x (.call (.c (.fn 168 [] [])) [(.t 22),(.t 24)])),none,0⟩,
⟨(some 26),(.x (.call (.c (.fn 131 [] [])) [(.t 25)])),none,0⟩,
⟨(some 4),(.q (.mv (.t 26))),none,0⟩])
.ret) .skip))
(.seq (.seq (.reg [⟨(some 27),(.q (.mv (.t 0))),none,0⟩,
⟨(some 28),(.x (.call (.c (.fn 170 [] [])) [(.t 27)])),none,0⟩,
⟨(some 29),(.q (.mv (.t 28))),none,0⟩,
⟨(some 30),(.q (.mv (.t 1))),(some (29,false)),0⟩,
⟨(some 31),(.x (.call (.c (.fn 170 [] [])) [(.t 30)])),(some (29,false)),0⟩,
⟨(some 32),(.q (.pick (.t 29) (.c (.bool true)) (.t 31))),none,0⟩])
(.cond (.t 32) (.seq (.reg [⟨(some 33),(.x (.call (.c (.fn 183 [] [])) [])),none,0⟩,
⟨(some 4),(.q (.mv (.t 33))),none,0⟩])
.ret) .skip))
(.seq (.seq (.reg [⟨(some 34),(.q (.mv (.t 0))),none,0⟩,
⟨(some 35),(.q (.mv (.t 1))),none,0⟩,
⟨(some 36),(.x (.call (.c (.fn 222 [] [])) [(.t 34),(.t 35)])),none,0⟩,
⟨(some 37),(.q (.bin .lss (.p .int) (.t 36) (.c (.int .i64 (.ofNat 0))))),none,0⟩])
(.cond (.t 37) (.reg [⟨(some 38),(.q (.mv (.t 1))),none,0⟩,
⟨(some 39),(.q (.mv (.t 0))),none,0⟩,
⟨(some 0),(.q (.mv (.t 38))),none,0⟩,
⟨(some 1),(.q (.mv (.t 39))),none,0⟩]) .skip))
(.seq (.block 0 (.loop (.seq (.seq (.reg [⟨(some 40),(.q (.mv (.t 1))),none,0⟩,
⟨(some 41),(.q (.lenSl (.t 40))),none,0⟩,
⟨(some 42),(.q (.bin .gtr (.p .int) (.t 41) (.c (.int .i64 (.ofNat 2))))),none,0⟩])
(.cond (.t 42) .skip (.exit 0)))
(.block 1 (.seq (.reg [⟨(some 44),(.q (.mv (.t 0))),none,0⟩,
⟨(some 45),(.q (.mv (.t 1))),none,0⟩,
⟨(some 46),(.x (.call (.c (.fn 224 [] [])) [(.t 44),(.t 45)])),none,0⟩,
⟨(some 47),(.q (.extract (.t 46) 0)),none,0⟩,
⟨(some 48),(.q (.extract (.t 46) 1)),none,0⟩,
⟨(some 49),(.x (.call (.c (.fn 223 [] [])) [(.t 47),(.t 48)])),none,0⟩,
⟨(some 43),(.q (.mv (.t 49))),none,0⟩,
⟨(some 50),(.q (.extract (.t 43) 0)),none,0⟩,
⟨(some 51),(.q (.extract (.t 43) 1)),none,0⟩,
⟨(some 52),(.q (.extract (.t 43) 2)),none,0⟩,
⟨(some 53),(.q (.extract (.t 43) 3)),none,0⟩,
⟨(some 5),(.q (.mv (.t 50))),none,0⟩,
⟨(some 6),(.q (.mv (.t 51))),none,0⟩,
⟨(some 7),(.q (.mv (.t 52))),none,0⟩,
⟨(some 8),(.q (.mv (.t 53))),none,0⟩])
(.seq (.seq (.reg [⟨(some 54),(.q (.mv (.t 6))),none,0⟩,
⟨(some 55),(.q (.bin .eql (.p .int) (.t 54) (.c (.int .i64 (.ofNat 0))))),none,0⟩])
(.cond (.t 55) (.seq (.reg [⟨(some 57),(.q (.mv (.t 0))),none,0⟩,
⟨(some 58),(.q (.mv (.t 1))),none,0⟩,
⟨(some 59),(.x (.call (.c (.fn 225 [] [])) [(.t 57),(.t 58)])),none,0⟩,
⟨(some 56),(.q (.mv (.t 59))),none,0⟩,
⟨(some 60),(.q (.extract (.t 56) 0)),none,0⟩,
⟨(some 61),(.q (.extract (.t 56) 1)),none,0⟩,
⟨(some 9),(.q (.mv (.t 60))),none,0⟩,
⟨(some 10),(.q (.mv (.t 61))),none,0⟩])
(.seq (.reg [⟨(some 62),(.q (.mv (.t 1))),none,0⟩,
⟨(some 63),(.q (.mv (.t 10))),none,0⟩,
⟨(some 0),(.q (.mv (.t 62))),none,0⟩,
⟨(some 1),(.q (.mv (.t 63))),none,0⟩])
(.exit 1))) .skip))
(.reg [⟨(some 64),(.q (.mv (.t 0))),none,0⟩,
⟨(some 65),(.q (.mv (.t 1))),none,0⟩,
⟨(some 66),(.q (.mv (.t 5))),none,0⟩,
⟨(some 67),(.q (.mv (.t 6))),none,0⟩,
⟨(some 68),(.x (.call (.c (.fn 226 [] [])) [(.t 64),(.t 65),(.t 66),(.t 67)])),none,0⟩,
⟨(some 69),(.q (.mv (.t 0))),none,0⟩,
⟨(some 70),(.q (.mv (.t 1))),none,0⟩,
⟨(some 71),(.q (.mv (.t 7))),none,0⟩,
⟨(some 72),(.q (.mv (.t 8))),none,0⟩,
⟨(some 73),(.x (.call (.c (.fn 226 [] [])) [(.t 69),(.t 70),(.t 71),(.t 72)])),none,0⟩,
⟨(some 0),(.q (.mv (.t 68))),none,0⟩,
⟨(some 1),(.q (.mv (.t 73))),none,0⟩])))))))
(.seq (.seq (.reg [⟨(some 74),(.q (.mv (.t 1))),none,0⟩,
⟨(some 75),(.q (.lenSl (.t 74))),none,0⟩,
⟨(some 76),(.q (.bin .eql (.p .int) (.t 75) (.c (.int .i64 (.ofNat 0))))),none,0⟩])
(.cond (.t 76) (.seq (.reg [⟨(some 77),(.q (.mv (.t 0))),none,0⟩,
⟨(some 78),(.x (.call (.c (.fn 176 [] [])) [(.t 77)])),none,0⟩,
⟨(some 4),(.q (.mv (.t 78))),none,0⟩])
.ret) .skip))
(.seq (.reg [⟨(some 80),(.q (.mv (.t 0))),none,0⟩,
⟨(some 81),(.q (.mv (.t 1))),none,0⟩,
⟨(some 82),(.x (.call (.c (.fn 225 [] [])) [(.t 80),(.t 81)])),none,0⟩,
⟨(some 79),(.q (.mv (.t 82))),none,0⟩,
⟨(some 83),(.q (.extract (.t 79) 0)),none,0⟩,
⟨(some 84),(.q (.extract (.t 79) 1)),none,0⟩,
⟨(some 11),(.q (.mv (.t 83))),none,0⟩,
⟨(some 12),(.q (.mv (.t 84))),none,0⟩])
(.seq (.reg [⟨(some 85),(.q (.mv (.t 1))),none,0⟩,
⟨(some 86),(.x (.call (.c (.fn 169 [] [])) [(.t 85)])),none,0⟩,
⟨(some 87),(.q (.mv (.t 12))),none,0⟩,
⟨(some 88),(.x (.call (.c (.fn 169 [] [])) [(.t 87)])),none,0⟩,
⟨(some 89),(.x (.call (.c (.fn 168 [] [])) [(.t 86),(.t 88)])),none,0⟩,
⟨(some 90),(.x (.call (.c (.fn 131 [] [])) [(.t 89)])),none,0⟩,
⟨(some 4),(.q (.mv (.t 90))),none,0⟩])
.ret))))))))⟩
theorem row171 : Row Tryz.prog (171, a171) := ⟨Tryz.f171, Tryz.func171, by kernel_rfl⟩
noncomputable def a176 : AFn :=
⟨5,[(.t 2)],(.seq (.reg [⟨(some 2),(.q (.mv (.c .nilsl))),none,0⟩])
(.seq (.reg [⟨(some 3),(.q (.mv (.t 0))),none,0⟩,
⟨(some 4),(.x (.app 149 1 4 (.c .nilsl) (.t 3))),none,0⟩,
⟨(some 2),(.q (.mv (.t 4))),none,0⟩])
.ret))⟩
theorem row176 : Row Tryz.prog (176, a176) := ⟨Tryz.f176, Tryz.func176, by kernel_rfl⟩
noncomputable def a183 : AFn :=
⟨2,[(.t 0)],(.seq (.reg [⟨(some 0),(.q (.mv (.c .nilsl))),none,0⟩])
(.seq (.reg [⟨(some 1),(.a (.bslice 149 1 1 [(.int .u32 (.ofNat 0))] [(0,(.c (.int .u32 (.ofNat 1))))])),none,0⟩,
⟨(some 0),(.q (.mv (.t 1))),none,0⟩])
.ret))⟩
theorem row183 : Row Tryz.prog (183, a183) := ⟨Tryz.f183, Tryz.func183, by kernel_rfl⟩
noncomputable def a192 : AFn :=
⟨43,[(.t 4)],(.seq (.reg [⟨(some 3),(.a (.box 75 (.t 1))),none,0⟩,
⟨(some 4),(.q (.mv (.c (.int .i64 (.ofNat 0))))),none,0⟩])
(.seq (.seq (.reg [⟨(some 5),(.q (.faddr 1 (.t 3))),none,0⟩,
⟨(some 6),(.q (.ld false 1 (.t 5))),none,0⟩,
⟨(some 7),(.q (.bin .neq (.p .int) (.t 6) (.c (.int .i64 (.ofNat 0))))),none,0⟩,
⟨(some 8),(.q (.mv (.t 7))),none,0⟩,
⟨(some 9),(.q (.faddr 2 (.t 3))),(some (8,false)),0⟩,
⟨(some 10),(.q (.ld false 1 (.t 9))),(some (8,false)),0⟩,
⟨(some 11),(.q (.bin .neq (.p .int) (.t 10) (.c (.int .i64 (.ofNat 0))))),(some (8,false)),0⟩,
⟨(some 12),(.q (.pick (.t 8) (.c (.bool true)) (.t 11))),none,0⟩,
⟨(some 13),(.q (.mv (.t 12))),none,0⟩,
⟨(some 14),(.q (.faddr 5 (.t 3))),(some (13,false)),0⟩,
⟨(some 15),(.q (.ld false 1 (.t 14))),(some (13,false)),0⟩,
⟨(some 16),(.q (.lenSl (.t 15))),(some (13,false)),0⟩,
⟨(some 17),(.q (.bin .gtr (.p .int) (.t 16) (.c (.int .i64 (.ofNat 0))))),(some (13,false)),0⟩,
⟨(some 18),(.q (.pick (.t 13) (.c (.bool true)) (.t 17))),none,0⟩,
⟨(some 19),(.q (.mv (.t 18))),none,0⟩,
⟨(some 20),(.q (.faddr 3 (.t 3))),(some (19,false)),0⟩,
⟨(some 21),(.q (.ld false 1 (.t 20))),(some (19,false)),0⟩,
⟨(some 22),(.q (.lenSl (.t 21))),(some (19,false)),0⟩,
⟨(some 23),(.q (.bin .lss (.p .int) (.t 22) (.c (.int .i64 (.ofNat 1))))),(some (19,false)),0⟩,
⟨(some 24),(.q (.pick (.t 19) (.c (.bool true)) (.t 23))),none,0⟩,
⟨(some 25),(.q (.mv (.t 24))),none,0⟩,
⟨(some 26),(.q (.faddr 3 (.t 3))),(some (25,false)),0⟩,
⟨(some 27),(.q (.ld false 1 (.t 26))),(some (25,false)),0⟩,
⟨(some 28),(.q (.lenSl (.t 27))),(some (25,false)),0⟩,
⟨(some 29),(.q (.bin .gtr (.p .int) (.t 28) (.c (.int .i64 (.ofNat 60))))),(some (25,false)),0⟩,
⟨(some 30),(.q (.pick (.t 25) (.c (.bool true)) (.t 29))),none,0⟩,
⟨(some 31),(.q (.mv (.t 30))),none,0⟩,
⟨(some 32),(.q (.faddr 4 (.t 3))),(some (31,false)),0⟩,
⟨(some 33),(.q (.ld false 1 (.t 32))),(some (31,false)),0⟩,
⟨(some 34),(.q (.lenSl (.t 33))),(some (31,false)),0⟩,
⟨(some 35),(.q (.faddr 3 (.t 3))),(some (31,false)),0⟩,
⟨(some 36),(.q (.ld false 1 (.t 35))),(some (31,false)),0⟩,
⟨(some 37),(.q (.lenSl (.t 36))),(some (31,false)),0⟩,
⟨(some 38),(.q (.bin .neq (.p .int) (.t 34) (.t 37))),(some (31,false)),0⟩,
⟨(some 39),(.q (.pick (.t 31) (.c (.bool true)) (.t 38))),none,0⟩])
(.cond (.t 39) (.seq (.reg [⟨(some 4),(.q (.mv (.c (.int .i64 (.ofNat 3))))),none,0⟩])
.ret) .skip))
(.seq (.reg [⟨(some 40),(.q (.faddr 4 (.t 3))),none,0⟩,
⟨(some 41),(.q (.ld false 1 (.t 40))),none,0⟩,
⟨(some 42),(.x (.call (.c (.fn 238 [] [])) [(.c (.int .i64 (.ofNat 1))),(.c (.int .i64 (.ofNat 1000))),(.t 41)])),none,0⟩,
⟨(some 4),(.q (.mv (.t 42))),none,0⟩])
.ret)))⟩
theorem row192 : Row Tryz.prog (192, a192) := ⟨Tryz.f192, Tryz.func192, by kernel_rfl⟩
noncomputable def a193 : AFn :=
⟨52,[(.t 4)],(.seq (.reg [⟨(some 3),(.a (.box 75 (.t 1))),none,0⟩,
⟨(some 4),(.q (.mv (.c (.int .i64 (.ofNat 0))))),none,0⟩])
(.seq (.seq (.reg [⟨(some 6),(.q (.faddr 4 (.t 3))),none,0⟩,
⟨(some 7),(.q (.ld false 1 (.t 6))),none,0⟩,
⟨(some 8),(.q (.lenSl (.t 7))),none,0⟩,
⟨(some 9),(.q (.bin .gtr (.p .int) (.t 8) (.c (.int .i64 (.ofNat 0))))),none,0⟩,
⟨(some 10),(.q (.mv (.t 9))),none,0⟩,
⟨(some 11),(.q (.faddr 5 (.t 3))),(some (10,false)),0⟩,
⟨(some 12),(.q (.ld false 1 (.t 11))),(some (10,false)),0⟩,
⟨(some 13),(.q (.lenSl (.t 12))),(some (10,false)),0⟩,
⟨(some 14),(.q (.bin .gtr (.p .int) (.t 13) (.c (.int .i64 (.ofNat 0))))),(some (10,false)),0⟩,
⟨(some 15),(.q (.pick (.t 10) (.c (.bool true)) (.t 14))),none,0⟩,
⟨(some 16),(.q (.mv (.t 15))),none,0⟩,
⟨(some 17),(.q (.faddr 3 (.t 3))),(some (16,false)),0⟩,
⟨(some 18),(.q (.ld false 1 (.t 17))),(some (16,false)),0⟩,
⟨(some 19),(.q (.lenSl (.t 18))),(some (16,false)),0⟩,
⟨(some 20),(.q (.bin .lss (.p .int) (.t 19) (.c (.int .i64 (.ofNat 1))))),(some (16,false)),0⟩,
⟨(some 21),(.q (.pick (.t 16) (.c (.bool true)) (.t 20))),none,0⟩,
⟨(some 22),(.q (.mv (.t 21))),none,0⟩,
⟨(some 23),(.q (.faddr 3 (.t 3))),(some (22,false)),0⟩,
⟨(some 24),(.q (.ld false 1 (.t 23))),(some (22,false)),0⟩,
⟨(some 25),(.q (.lenSl (.t 24))),(some (22,false)),0⟩,
⟨(some 26),(.q (.bin .gtr (.p .int) (.t 25) (.c (.int .i64 (.ofNat 10))))),(some (22,false)),0⟩,
⟨(some 27),(.q (.pick (.t 22) (.c (.bool true)) (.t 26))),none,0⟩])
(.cond (.t 27) (.seq (.reg [⟨(some 4),(.q (.mv (.c (.int .i64 (.ofNat 3))))),none,0⟩])
.ret) .skip))
(.seq (.seq (.drw [⟨(some 28),(.q (.mv (.t 0))),none,0⟩,
⟨(some 29),(.q (.nilchk (.t 28))),none,1⟩,
⟨(some 30),(.q (.faddr 0 (.t 29))),none,3⟩,
⟨(some 31),(.q (.faddr 0 (.t 30))),none,7⟩,
⟨(some 32),(.q (.ld false 1 (.t 31))),none,15⟩,
⟨(some 33),(.q (.bin .sub (.p .int) (.t 32) (.c (.int .i64 (.ofNat 1))))),none,31⟩,
⟨(some 34),(.q (.faddr 1 (.t 3))),none,0⟩,
⟨(some 35),(.q (.ld false 1 (.t 34))),none,64⟩,
⟨(some 36),(.a (.bslice 3 1 1 [(.int .i64 (.ofNat 0))] [(0,(.t 35))])),none,192⟩,
⟨(some 37),(.x (.call (.c (.fn 238 [] [])) [(.c (.int .i64 (.ofNat 0))),(.t 33),(.t 36)])),none,511⟩,
⟨(some 5),(.q (.mv (.t 37))),none,1023⟩])
(.seq (.reg [⟨(some 38),(.q (.mv (.t 5))),none,0⟩,
⟨(some 39),(.q (.bin .neq (.p .int) (.t 38) (.c (.int .i64 (.ofNat 0))))),none,0⟩])
(.cond (.t 39) (.seq (.reg [⟨(some 40),(.q (.mv (.t 5))),none,0⟩,
⟨(some 4),(.q (.mv (.t 40))),none,0⟩])
.ret) .skip)))
(.seq (.drw [⟨(some 41),(.q (.mv (.t 0))),none,0⟩,
⟨(some 42),(.q (.nilchk (.t 41))),none,1⟩,
⟨(some 43),(.q (.faddr 0 (.t 42))),none,3⟩,
⟨(some 44),(.q (.faddr 2 (.t 43))),none,7⟩,
⟨(some 45),(.q (.ld false 1 (.t 44))),none,15⟩,
⟨(some 46),(.q (.lenSl (.t 45))),none,31⟩,
⟨(some 47),(.q (.bin .sub (.p .int) (.t 46) (.c (.int .i64 (.ofNat 1))))),none,63⟩,
⟨(some 48),(.q (.faddr 2 (.t 3))),none,0⟩,
⟨(some 49),(.q (.ld false 1 (.t 48))),none,128⟩,
⟨(some 50),(.a (.bslice 3 1 1 [(.int .i64 (.ofNat 0))] [(0,(.t 49))])),none,384⟩,
⟨(some 51),(.x (.call (.c (.fn 238 [] [])) [(.c (.int .i64 (.ofNat 0))),(.t 47),(.t 50)])),none,1023⟩,
⟨(some 4),(.q (.mv (.t 51))),none,2047⟩])
.ret))))⟩
theorem row193 : Row Tryz.prog (193, a193) := ⟨Tryz.f193, Tryz.func193, by kernel_rfl⟩
noncomputable def a194 : AFn :=
⟨39,[(.t 4)],(.seq (.reg [⟨(some 3),(.a (.box 75 (.t 1))),none,0⟩,
⟨(some 4),(.q (.mv (.c (.int .i64 (.ofNat 0))))),none,0⟩])
(.seq (.seq (.drw [⟨(some 5),(.q (.faddr 1 (.t 3))),none,0⟩,
⟨(some 6),(.q (.ld false 1 (.t 5))),none,1⟩,
⟨(some 7),(.q (.bin .neq (.p .int) (.t 6) (.c (.int .i64 (.ofNat 0))))),none,3⟩,
⟨(some 8),(.q (.mv (.t 7))),none,7⟩,
⟨(some 9),(.q (.faddr 2 (.t 3))),(some (8,false)),15⟩,
⟨(some 10),(.q (.ld false 1 (.t 9))),(some (8,false)),31⟩,
⟨(some 11),(.q (.bin .neq (.p .int) (.t 10) (.c (.int .i64 (.ofNat 0))))),(some (8,false)),63⟩,
⟨(some 12),(.q (.pick (.t 8) (.c (.bool true)) (.t 11))),none,127⟩,
⟨(some 13),(.q (.mv (.t 12))),none,255⟩,
⟨(some 14),(.q (.faddr 3 (.t 3))),(some (13,false)),511⟩,
⟨(some 15),(.q (.ld false 1 (.t 14))),(some (13,false)),1023⟩,
⟨(some 16),(.q (.lenSl (.t 15))),(some (13,false)),2047⟩,
⟨(some 17),(.q (.bin .gtr (.p .int) (.t 16) (.c (.int .i64 (.ofNat 0))))),(some (13,false)),4095⟩,
⟨(some 18),(.q (.pick (.t 13) (.c (.bool true)) (.t 17))),none,8191⟩,
⟨(some 19),(.q (.mv (.t 18))),none,16383⟩,
⟨(some 20),(.q (.faddr 4 (.t 3))),(some (19,false)),32767⟩,
⟨(some 21),(.q (.ld false 1 (.t 20))),(some (19,false)),65535⟩,
⟨(some 22),(.q (.lenSl (.t 21))),(some (19,false)),131071⟩,
⟨(some 23),(.q (.bin .gtr (.p .int) (.t 22) (.c (.int .i64 (.ofNat 0))))),(some (19,false)),262143⟩,
⟨(some 24),(.q (.pick (.t 19) (.c (.bool true)) (.t 23))),none,524287⟩,
⟨(some 25),(.q (.mv (.t 24))),none,1048575⟩,
⟨(some 26),(.q (.faddr 5 (.t 3))),(some (25,false)),2097151⟩,
⟨(some 27),(.q (.ld false 1 (.t 26))),(some (25,false)),4194303⟩,
⟨(some 28),(.q (.lenSl (.t 27))),(some (25,false)),8388607⟩,
⟨(some 29),(.q (.mv (.t 0))),(some (25,false)),2097151⟩,
⟨(some 30),(.q (.nilchk (.t 29))),(some (25,false)),18874367⟩,
⟨(some 31),(.q (.faddr 0 (.t 30))),(some (25,false)),52428799⟩,
⟨(some 32),(.q (.faddr 0 (.t 31))),(some (25,false)),119537663⟩,
⟨(some 33),(.q (.ld false 1 (.t 32))),(some (25,false)),253755391⟩,
⟨(some 34),(.q (.bin .neq (.p .int) (.t 28) (.t 33))),(some (25,false)),536870911⟩,
⟨(some 35),(.q (.pick (.t 25) (.c (.bool true)) (.t 34))),none,1073741823⟩])
(.cond (.t 35) (.seq (.reg [⟨(some 4),(.q (.mv (.c (.int .i64 (.ofNat 3))))),none,0⟩])
.ret) .skip))
(.seq (.reg [⟨(some 36),(.q (.faddr 5 (.t 3))),none,0⟩,
⟨(some 37),(.q (.ld false 1 (.t 36))),none,0⟩,
⟨(some 38),(.x (.call (.c (.fn 238 [] [])) [(.c (.int .i64 (.negSucc 999999))),(.c (.int .i64 (.ofNat 1000000))),(.t 37)])),none,0⟩,
⟨(some 4),(.q (.mv (.t 38))),none,0⟩])
.ret)))⟩
theorem row194 : Row Tryz.prog (194, a194) := ⟨Tryz.f194, Tryz.func194, by kernel_rfl⟩
noncomputable def a195 : AFn :=
⟨9,[(.t 4)],(.seq (.reg [⟨(some 4),(.q (.mv (.c (.bool false)))),none,0⟩])
(.seq (.reg [⟨(some 5),(.q (.mv (.t 0))),none,0⟩,
⟨(some 6),(.q (.mv (.t 1))),none,0⟩,
⟨(some 7),(.x (.call (.c (.fn 239 [] [])) [(.t 5),(.t 6)])),none,0⟩,
⟨(some 8),(.q (.bin .geq (.p .int) (.t 7) (.c (.int .i64 (.ofNat 0))))),none,0⟩,
⟨(some 4),(.q (.mv (.t 8))),none,0⟩])
.ret))⟩
theorem row195 : Row Tryz.prog (195, a195) := ⟨Tryz.f195, Tryz.func195, by kernel_rfl⟩
noncomputable def a196 : AFn :=
⟨21,[(.t 2)],(.seq (.reg [⟨(some 2),(.q (.mv (.c (.bool false)))),none,0⟩])
(.seq (.seq (.reg [⟨(some 4),(.q (.mv (.t 0))),none,0⟩,
⟨(some 5),(.q (.lenSl (.t 4))),none,0⟩,
⟨(some 6),(.q (.bin .sub (.p .int) (.t 5) (.c (.int .i64 (.ofNat 1))))),none,0⟩,
⟨(some 3),(.q (.mv (.t 6))),none,0⟩])
(.block 0 (.loop (.seq (.seq (.reg [⟨(some 7),(.q (.mv (.t 3))),none,0⟩,
⟨(some 8),(.q (.bin .gtr (.p .int) (.t 7) (.c (.int .i64 (.ofNat 0))))),none,0⟩])
(.cond (.t 8) .skip (.exit 0)))
(.seq (.block 1 (.seq (.drw [⟨(some 11),(.q (.mv (.t 0))),none,0⟩,
⟨(some 12),(.q (.mv (.t 3))),none,0⟩,
⟨(some 13),(.q (.iaddr (.slice 1) (.t 11) (.t 12))),none,3⟩,
⟨(some 14),(.q (.ld false 1 (.t 13))),none,7⟩,
⟨(some 15),(.q (.mv (.t 0))),none,0⟩,
⟨(some 16),(.q (.mv (.t 3))),none,0⟩,
⟨(some 17),(.q (.bin .sub (.p .int) (.t 16) (.c (.int .i64 (.ofNat 1))))),none,32⟩,
⟨(some 18),(.q (.iaddr (.slice 1) (.t 15) (.t 17))),none,112⟩,
⟨(some 19),(.q (.ld false 1 (.t 18))),none,240⟩,
⟨(some 20),(.x (.call (.c (.fn 203 [] [])) [(.t 14),(.t 19)])),none,511⟩])
(.cond (.t 20) (.seq (.reg [⟨(some 2),(.q (.mv (.c (.bool false)))),none,0⟩])
.ret) .skip)))
(.reg [⟨(some 9),(.q (.mv (.t 3))),none,0⟩,
⟨(some 10),(.q (.bin .sub (.p .int) (.t 9) (.c (.int .i64 (.ofNat 1))))),none,0⟩,
⟨(some 3),(.q (.mv (.t 10))),none,0⟩]))))))
(.seq (.reg [⟨(some 2),(.q (.mv (.c (.bool true)))),none,0⟩])
.ret)))⟩
theorem row196 : Row Tryz.prog (196, a196) := ⟨Tryz.f196, Tryz.func196, by kernel_rfl⟩
noncomputable def a197 : AFn :=
⟨49,[],(.seq (.reg [⟨(some 8),(.q (.mv (.t 1))),none,0⟩,
⟨(some 9),(.q (.bin .add (.p .int) (.t 8) (.c (.int .i64 (.ofNat 1))))),none,0⟩,
⟨(some 6),(.q (.mv (.t 9))),none,0⟩])
(.block 0 (.loop (.seq (.seq (.reg [⟨(some 10),(.q (.mv (.t 6))),none,0⟩,
⟨(some 11),(.q (.mv (.t 2))),none,0⟩,
⟨(some 12),(.q (.bin .lss (.p .int) (.t 10) (.t 11))),none,0⟩])
(.cond (.t 12) .skip (.exit 0)))
(.seq (.block 1 (.seq (.reg [⟨(some 15),(.q (.mv (.t 6))),none,0⟩,
⟨(some 7),(.q (.mv (.t 15))),none,0⟩])
(.block 2 (.loop (.seq (.seq (.drw [⟨(some 16),(.q (.mv (.t 7))),none,0⟩,
⟨(some 17),(.q (.mv (.t 1))),none,0⟩,
⟨(some 18),(.q (.bin .gtr (.p .int) (.t 16) (.t 17))),none,3⟩,
⟨(some 19),(.q (.mv (.t 18))),none,7⟩,
⟨(some 20),(.q (.mv (.t 0))),(some (19,true)),15⟩,
⟨(some 21),(.q (.mv (.t 7))),(some (19,true)),15⟩,
⟨(some 22),(.q (.iaddr (.slice 1) (.t 20) (.t 21))),(some (19,true)),63⟩,
⟨(some 23),(.q (.ld false 1 (.t 22))),(some (19,true)),127⟩,
⟨(some 24),(.q (.mv (.t 0))),(some (19,true)),15⟩,
⟨(some 25),(.q (.mv (.t 7))),(some (19,true)),15⟩,
⟨(some 26),(.q (.bin .sub (.p .int) (.t 25) (.c (.int .i64 (.ofNat 1))))),(some (19,true)),527⟩,
⟨(some 27),(.q (.iaddr (.slice 1) (.t 24) (.t 26))),(some (19,true)),1807⟩,
⟨(some 28),(.q (.ld false 1 (.t 27))),(some (19,true)),3855⟩,
⟨(some 29),(.x (.call (.c (.fn 203 [] [])) [(.t 23),(.t 28)])),(some (19,true)),8191⟩,
⟨(some 30),(.q (.pick (.t 19) (.t 29) (.c (.bool false)))),none,16383⟩])
(.cond (.t 30) .skip (.exit 2)))
(.seq (.block 3 (.drw [⟨(some 33),(.q (.mv (.t 0))),none,0⟩,
⟨(some 34),(.q (.mv (.t 7))),none,0⟩,
⟨(some 35),(.q (.mv (.t 0))),none,0⟩,
⟨(some 36),(.q (.mv (.t 7))),none,0⟩,
⟨(some 37),(.q (.bin .sub (.p .int) (.t 36) (.c (.int .i64 (.ofNat 1))))),none,8⟩,
⟨(some 38),(.q (.mv (.t 0))),none,0⟩,
⟨(some 39),(.q (.mv (.t 7))),none,0⟩,
⟨(some 40),(.q (.bin .sub (.p .int) (.t 39) (.c (.int .i64 (.ofNat 1))))),none,64⟩,
⟨(some 41),(.q (.iaddr (.slice 1) (.t 38) (.t 40))),none,224⟩,
⟨(some 42),(.q (.ld false 1 (.t 41))),none,480⟩,
⟨(some 43),(.q (.mv (.t 0))),none,0⟩,
⟨(some 44),(.q (.mv (.t 7))),none,0⟩,
⟨(some 45),(.q (.iaddr (.slice 1) (.t 43) (.t 44))),none,3072⟩,
⟨(some 46),(.q (.ld false 1 (.t 45))),none,7168⟩,
⟨(some 47),(.q (.iaddr (.slice 1) (.t 33) (.t 34))),none,16355⟩,
⟨none,(.x (.st 1 (.t 47) (.t 42))),none,32739⟩,
⟨(some 48),(.q (.iaddr (.slice 1) (.t 35) (.t 37))),none,65535⟩,
⟨none,(.x (.st 1 (.t 48) (.t 46))),none,131071⟩]))
(.reg [⟨(some 31),(.q (.mv (.t 7))),none,0⟩,
⟨(some 32),(.q (.bin .sub (.p .int) (.t 31) (.c (.int .i64 (.ofNat 1))))),none,0⟩,
⟨(some 7),(.q (.mv (.t 32))),none,0⟩])))))))
(.reg [⟨(some 13),(.q (.mv (.t 6))),none,0⟩,
⟨(some 14),(.q (.bin .add (.p .int) (.t 13) (.c (.int .i64 (.ofNat 1))))),none,0⟩,
⟨(some 6),(.q (.mv (.t 14))),none,0⟩]))))))⟩
theorem row197 : Row Tryz.prog (197, a197) := ⟨Tryz.f197, Tryz.func197, by kernel_rfl⟩
end Go.Proofs.YtopemogpgppjlaaGreatDoor.normalNames
