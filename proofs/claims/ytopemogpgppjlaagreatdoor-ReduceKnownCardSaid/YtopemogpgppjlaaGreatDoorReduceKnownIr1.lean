/- The functions that ReduceKnown reaches, as data of the evaluator (part 1), written by program; each is shown to be the compiler's result on the loaded function. -/
import Derived.Test.YtopemogpgppjlaaGreatDoorProg
import Derived.Test.YtopemogpgppjlaaGreatDoorEv7
import Derived.KernelRfl
namespace Go.Proofs.YtopemogpgppjlaaGreatDoor.reduceKnown
open Go.Ev
set_option maxRecDepth 100000
noncomputable def a95 : AFn :=
⟨54,[(.t 6)],(.seq (.reg [⟨(some 3),(.a (.box 31 (.t 0))),none,0⟩,
⟨(some 4),(.a (.box 52 (.t 1))),none,0⟩,
⟨(some 6),(.q (.mv (.c (.int .i64 (.ofNat 0))))),none,0⟩])
(.seq (.seq (.reg [⟨(some 11),(.q (.ld true 3 (.t 3))),none,0⟩,
⟨(some 12),(.x (.call (.c (.fn 69 [] [])) [(.t 11)])),none,0⟩,
⟨(some 7),(.q (.mv (.t 12))),none,0⟩])
(.seq (.reg [⟨(some 13),(.q (.mv (.t 7))),none,0⟩,
⟨(some 14),(.q (.bin .neq (.p .int) (.t 13) (.c (.int .i64 (.ofNat 0))))),none,0⟩])
(.cond (.t 14) (.seq (.reg [⟨(some 15),(.q (.mv (.t 7))),none,0⟩,
⟨(some 6),(.q (.mv (.t 15))),none,0⟩])
.ret) .skip)))
(.seq (.seq (.reg [⟨(some 16),(.q (.ld true 2 (.t 4))),none,0⟩,
⟨(some 17),(.x (.call (.c (.fn 136 [] [])) [(.t 16)])),none,0⟩,
⟨(some 8),(.q (.mv (.t 17))),none,0⟩])
(.seq (.reg [⟨(some 18),(.q (.mv (.t 8))),none,0⟩,
⟨(some 19),(.q (.bin .neq (.p .int) (.t 18) (.c (.int .i64 (.ofNat 0))))),none,0⟩])
(.cond (.t 19) (.seq (.reg [⟨(some 20),(.q (.mv (.t 8))),none,0⟩,
⟨(some 6),(.q (.mv (.t 20))),none,0⟩])
.ret) .skip)))
(.seq (.seq (.reg [⟨(some 21),(.q (.faddr 1 (.t 4))),none,0⟩,
⟨(some 22),(.q (.ld false 1 (.t 21))),none,0⟩,
⟨(some 23),(.q (.lenSl (.t 22))),none,0⟩,
⟨(some 24),(.q (.faddr 2 (.t 3))),none,0⟩,
⟨(some 25),(.q (.ld false 1 (.t 24))),none,0⟩,
⟨(some 26),(.q (.lenSl (.t 25))),none,0⟩,
⟨(some 27),(.q (.bin .neq (.p .int) (.t 23) (.t 26))),none,0⟩])
(.cond (.t 27) (.seq (.reg [⟨(some 6),(.q (.mv (.c (.int .i64 (.ofNat 10))))),none,0⟩])
.ret) .skip))
(.seq (.seq (.reg [⟨(some 28),(.q (.faddr 1 (.t 4))),none,0⟩,
⟨(some 29),(.q (.ld false 1 (.t 28))),none,0⟩,
⟨(some 30),(.q (.lenSl (.t 29))),none,0⟩,
⟨(some 31),(.q (.mv (.c (.int .i64 (.ofNat 0))))),none,0⟩])
(.block 0 (.loop (.seq (.reg [⟨(some 32),(.q (.bin .lss (.p .int) (.t 31) (.t 30))),none,0⟩])
(.seq (.cond (.t 32) .skip (.exit 0))
(.seq (.block 1 (.seq (.reg [⟨(some 33),(.q (.mv (.t 31))),none,0⟩,
⟨(some 34),(.q (.iaddr (.slice 1) (.t 29) (.t 31))),none,0⟩,
⟨(some 35),(.q (.ld false 1 (.t 34))),none,0⟩,
⟨(some 9),(.q (.mv (.t 33))),none,0⟩,
⟨(some 10),(.q (.mv (.t 35))),none,0⟩])
(.seq (.reg [⟨(some 36),(.q (.mv (.t 10))),none,0⟩,
⟨(some 37),(.q (.lenSl (.t 36))),none,0⟩,
⟨(some 38),(.q (.faddr 2 (.t 3))),none,0⟩,
⟨(some 39),(.q (.ld false 1 (.t 38))),none,0⟩,
⟨(some 40),(.q (.mv (.t 9))),none,0⟩,
⟨(some 41),(.q (.iaddr (.slice 2) (.t 39) (.t 40))),none,0⟩,
⟨(some 42),(.q (.faddr 1 (.t 41))),none,0⟩,
⟨(some 43),(.q (.ld false 1 (.t 42))),none,0⟩,
⟨(some 44),(.q (.bin .neq (.p .int) (.t 37) (.t 43))),none,0⟩])
(.cond (.t 44) (.seq (.reg [⟨(some 6),(.q (.mv (.c (.int .i64 (.ofNat 10))))),none,0⟩])
.ret) .skip))))
(.reg [⟨(some 45),(.q (.bin .add (.p .int) (.t 31) (.c (.int .i64 (.ofNat 1))))),none,0⟩,
⟨(some 31),(.q (.mv (.t 45))),none,0⟩])))))))
(.seq (.seq (.reg [⟨(some 46),(.q (.mv (.t 2))),none,0⟩,
⟨(some 47),(.q (.bin .lss (.p .int) (.t 46) (.c (.int .i64 (.ofNat 0))))),none,0⟩,
⟨(some 48),(.q (.mv (.t 47))),none,0⟩,
⟨(some 49),(.q (.mv (.t 2))),(some (48,false)),0⟩,
⟨(some 50),(.q (.faddr 0 (.t 3))),(some (48,false)),0⟩,
⟨(some 51),(.q (.ld false 1 (.t 50))),(some (48,false)),0⟩,
⟨(some 52),(.q (.bin .geq (.p .int) (.t 49) (.t 51))),(some (48,false)),0⟩,
⟨(some 53),(.q (.pick (.t 48) (.c (.bool true)) (.t 52))),none,0⟩])
(.cond (.t 53) (.seq (.reg [⟨(some 6),(.q (.mv (.c (.int .i64 (.ofNat 2))))),none,0⟩])
.ret) .skip))
(.seq (.reg [⟨(some 6),(.q (.mv (.c (.int .i64 (.ofNat 0))))),none,0⟩])
.ret)))))))⟩
theorem row95 : Row Tryz.prog (95, a95) := ⟨Tryz.f95, Tryz.func95, by kernel_rfl⟩
noncomputable def a96 : AFn :=
⟨17,[(.cell 2 true 3)],(.seq (.reg [⟨(some 1),(.a (.box 43 (.t 0))),none,0⟩,
⟨(some 2),(.a (.alloc 97 [(.bool false),.nilsl,.nilsl])),none,0⟩])
(.seq (.seq (.reg [⟨(some 3),(.q (.faddr 1 (.t 1))),none,0⟩,
⟨(some 4),(.q (.ld false 1 (.t 3))),none,0⟩,
⟨(some 5),(.q (.lenSl (.t 4))),none,0⟩,
⟨(some 6),(.q (.bin .eql (.p .int) (.t 5) (.c (.int .i64 (.ofNat 0))))),none,0⟩])
(.cond (.t 6) (.seq (.reg [⟨(some 7),(.q (.build [(.bool false),.nilsl,.nilsl] [])),none,0⟩,
⟨none,(.x (.st 3 (.t 2) (.t 7))),none,0⟩])
.ret) .skip))
(.seq (.drw [⟨(some 8),(.q (.faddr 0 (.t 1))),none,0⟩,
⟨(some 9),(.q (.ld false 1 (.t 8))),none,1⟩,
⟨(some 10),(.q (.faddr 1 (.t 1))),none,0⟩,
⟨(some 11),(.q (.ld false 1 (.t 10))),none,4⟩,
⟨(some 12),(.x (.call (.c (.fn 138 [] [])) [(.t 11)])),none,12⟩,
⟨(some 13),(.q (.faddr 2 (.t 1))),none,0⟩,
⟨(some 14),(.q (.ld false 1 (.t 13))),none,32⟩,
⟨(some 15),(.x (.call (.c (.fn 138 [] [])) [(.t 14)])),none,124⟩,
⟨(some 16),(.q (.build [(.bool false),.nilsl,.nilsl] [(0,1,(.t 9)),(1,1,(.t 12)),(2,1,(.t 15))])),none,255⟩,
⟨none,(.x (.st 3 (.t 2) (.t 16))),none,511⟩])
.ret)))⟩
theorem row96 : Row Tryz.prog (96, a96) := ⟨Tryz.f96, Tryz.func96, by kernel_rfl⟩
noncomputable def a97 : AFn :=
⟨8,[(.cell 4 true 4)],(.seq (.reg [⟨(some 2),(.a (.box 31 (.t 0))),none,0⟩,
⟨(some 3),(.a (.box 52 (.t 1))),none,0⟩,
⟨(some 4),(.a (.alloc 89 [(.int .i64 (.ofNat 0)),.nilsl,.nilsl,.nilfn])),none,0⟩])
(.seq (.reg [⟨(some 5),(.q (.ld true 3 (.t 2))),none,0⟩,
⟨(some 6),(.q (.mkFunc 139 [] [(.t 3)])),none,0⟩,
⟨(some 7),(.q (.build [(.int .i64 (.ofNat 0)),.nilsl,.nilsl,.nilfn] [(0,3,(.t 5)),(3,1,(.t 6))])),none,0⟩,
⟨none,(.x (.st 4 (.t 4) (.t 7))),none,0⟩])
.ret))⟩
theorem row97 : Row Tryz.prog (97, a97) := ⟨Tryz.f97, Tryz.func97, by kernel_rfl⟩
noncomputable def a98 : AFn :=
⟨24,[(.cell 6 true 3)],(.seq (.reg [⟨(some 3),(.a (.box 92 (.t 0))),none,0⟩,
⟨(some 5),(.a (.box 108 (.t 2))),none,0⟩,
⟨(some 6),(.a (.alloc 97 [(.bool false),.nilsl,.nilsl])),none,0⟩])
(.seq (.reg [⟨(some 7),(.a (.alloc 105 [(.bool false),.nilsl,.nilsl])),none,0⟩])
(.seq (.seq (.reg [⟨(some 9),(.q (.faddr 0 (.t 3))),none,0⟩,
⟨(some 10),(.q (.ld true 4 (.t 9))),none,0⟩,
⟨(some 11),(.q (.mv (.t 1))),none,0⟩,
⟨(some 12),(.x (.call (.c (.fn 140 [] [])) [(.t 10),(.t 11)])),none,0⟩])
(.block 0 (.rng (.t 12) [13] (.reg [⟨(some 8),(.a (.alloc 198 [(.int .i64 (.ofNat 0)),(.int .i64 (.ofNat 0)),(.bool false),.nilsl,.nilsl])),none,0⟩,
⟨none,(.x (.st 5 (.t 8) (.t 13))),none,0⟩]) (.block 1 (.drw [⟨(some 14),(.q (.faddr 2 (.t 8))),none,0⟩,
⟨(some 15),(.q (.ld true 3 (.t 14))),none,1⟩,
⟨(some 16),(.q (.ld false 1 (.t 5))),none,0⟩,
⟨(some 17),(.q (.faddr 1 (.t 8))),none,0⟩,
⟨(some 18),(.q (.ld false 1 (.t 17))),none,8⟩,
⟨(some 19),(.x (.call (.t 16) [(.t 18)])),none,28⟩,
⟨(some 20),(.x (.call (.c (.fn 107 [] [])) [(.t 15),(.t 19)])),none,63⟩,
⟨(some 21),(.x (.call (.c (.fn 62 [] [])) [(.t 7),(.t 20)])),none,127⟩])))))
(.seq (.reg [⟨(some 22),(.q (.faddr 0 (.t 7))),none,0⟩,
⟨(some 23),(.q (.ld true 3 (.t 22))),none,0⟩,
⟨none,(.x (.st 3 (.t 6) (.t 23))),none,0⟩])
.ret))))⟩
theorem row98 : Row Tryz.prog (98, a98) := ⟨Tryz.f98, Tryz.func98, by kernel_rfl⟩
noncomputable def a99 : AFn :=
⟨9,[(.cell 3 true 3)],(.seq (.reg [⟨(some 3),(.a (.alloc 97 [(.bool false),.nilsl,.nilsl])),none,0⟩])
(.seq (.reg [⟨(some 4),(.q (.faddr 4 (.t 1))),none,0⟩,
⟨(some 5),(.q (.ld false 1 (.t 4))),none,0⟩,
⟨(some 6),(.q (.mv (.t 0))),none,0⟩,
⟨(some 7),(.q (.iaddr (.slice 3) (.t 5) (.t 6))),none,0⟩,
⟨(some 8),(.q (.ld true 3 (.t 7))),none,0⟩,
⟨none,(.x (.st 3 (.t 3) (.t 8))),none,0⟩])
.ret))⟩
theorem row99 : Row Tryz.prog (99, a99) := ⟨Tryz.f99, Tryz.func99, by kernel_rfl⟩
noncomputable def a100 : AFn :=
⟨13,[(.t 2),(.t 3)],(.seq (.reg [⟨(some 1),(.a (.box 97 (.t 0))),none,0⟩,
⟨(some 2),(.q (.mv (.c .nilsl))),none,0⟩,
⟨(some 3),(.q (.mv (.c .nilsl))),none,0⟩])
(.seq (.seq (.reg [⟨(some 4),(.q (.faddr 1 (.t 1))),none,0⟩,
⟨(some 5),(.q (.ld false 1 (.t 4))),none,0⟩,
⟨(some 6),(.q (.lenSl (.t 5))),none,0⟩,
⟨(some 7),(.q (.bin .eql (.p .int) (.t 6) (.c (.int .i64 (.ofNat 0))))),none,0⟩])
(.cond (.t 7) (.seq (.reg [⟨(some 8),(.x (.call (.c (.fn 141 [] [])) [])),none,0⟩,
⟨(some 2),(.q (.mv (.c .nilsl))),none,0⟩,
⟨(some 3),(.q (.mv (.t 8))),none,0⟩])
.ret) .skip))
(.seq (.drw [⟨(some 9),(.q (.faddr 1 (.t 1))),none,0⟩,
⟨(some 10),(.q (.ld false 1 (.t 9))),none,1⟩,
⟨(some 11),(.q (.faddr 2 (.t 1))),none,0⟩,
⟨(some 12),(.q (.ld false 1 (.t 11))),none,4⟩,
⟨(some 2),(.q (.mv (.t 10))),none,3⟩,
⟨(some 3),(.q (.mv (.t 12))),none,31⟩])
.ret)))⟩
theorem row100 : Row Tryz.prog (100, a100) := ⟨Tryz.f100, Tryz.func100, by kernel_rfl⟩
noncomputable def a101 : AFn :=
⟨8,[(.t 2)],(.seq (.reg [⟨(some 2),(.q (.mv (.c .nilsl))),none,0⟩])
(.seq (.seq (.reg [⟨(some 3),(.q (.mv (.t 0))),none,0⟩,
⟨(some 4),(.q (.bin .eql (.p .slice) (.t 3) (.c .nilsl))),none,0⟩])
(.cond (.t 4) (.seq (.reg [⟨(some 2),(.q (.mv (.c .nilsl))),none,0⟩])
.ret) .skip))
(.seq (.reg [⟨(some 5),(.a (.bslice 149 1 0 [(.int .u32 (.ofNat 0))] [])),none,0⟩,
⟨(some 6),(.q (.mv (.t 0))),none,0⟩,
⟨(some 7),(.x (.app 149 1 4 (.t 5) (.t 6))),none,0⟩,
⟨(some 2),(.q (.mv (.t 7))),none,0⟩])
.ret)))⟩
theorem row101 : Row Tryz.prog (101, a101) := ⟨Tryz.f101, Tryz.func101, by kernel_rfl⟩
noncomputable def a102 : AFn :=
⟨8,[(.cell 3 true 3)],(.seq (.reg [⟨(some 3),(.a (.alloc 97 [(.bool false),.nilsl,.nilsl])),none,0⟩])
(.seq (.reg [⟨(some 4),(.q (.ld false 1 (.t 1))),none,0⟩,
⟨(some 5),(.q (.mv (.t 0))),none,0⟩,
⟨(some 6),(.q (.iaddr (.slice 3) (.t 4) (.t 5))),none,0⟩,
⟨(some 7),(.q (.ld true 3 (.t 6))),none,0⟩,
⟨none,(.x (.st 3 (.t 3) (.t 7))),none,0⟩])
.ret))⟩
theorem row102 : Row Tryz.prog (102, a102) := ⟨Tryz.f102, Tryz.func102, by kernel_rfl⟩
noncomputable def a103 : AFn :=
⟨8,[(.cell 3 true 3)],(.seq (.reg [⟨(some 3),(.a (.alloc 97 [(.bool false),.nilsl,.nilsl])),none,0⟩])
(.seq (.reg [⟨(some 4),(.q (.ld false 1 (.t 1))),none,0⟩,
⟨(some 5),(.q (.mv (.t 0))),none,0⟩,
⟨(some 6),(.q (.iaddr (.slice 3) (.t 4) (.t 5))),none,0⟩,
⟨(some 7),(.q (.ld true 3 (.t 6))),none,0⟩,
⟨none,(.x (.st 3 (.t 3) (.t 7))),none,0⟩])
.ret))⟩
theorem row103 : Row Tryz.prog (103, a103) := ⟨Tryz.f103, Tryz.func103, by kernel_rfl⟩
noncomputable def a104 : AFn :=
⟨15,[(.cell 4 true 3)],(.seq (.reg [⟨(some 4),(.a (.alloc 97 [(.bool false),.nilsl,.nilsl])),none,0⟩])
(.seq (.drw [⟨(some 5),(.q (.ld false 1 (.t 1))),none,0⟩,
⟨(some 6),(.q (.mv (.t 0))),none,0⟩,
⟨(some 7),(.q (.iaddr (.slice 3) (.t 5) (.t 6))),none,3⟩,
⟨(some 8),(.q (.ld true 3 (.t 7))),none,7⟩,
⟨(some 9),(.q (.faddr 4 (.t 2))),none,0⟩,
⟨(some 10),(.q (.ld false 1 (.t 9))),none,16⟩,
⟨(some 11),(.q (.mv (.t 0))),none,0⟩,
⟨(some 12),(.q (.iaddr (.slice 3) (.t 10) (.t 11))),none,112⟩,
⟨(some 13),(.q (.ld true 3 (.t 12))),none,240⟩,
⟨(some 14),(.x (.call (.c (.fn 64 [] [])) [(.t 8),(.t 13)])),none,511⟩,
⟨none,(.x (.st 3 (.t 4) (.t 14))),none,1023⟩])
.ret))⟩
theorem row104 : Row Tryz.prog (104, a104) := ⟨Tryz.f104, Tryz.func104, by kernel_rfl⟩
noncomputable def a105 : AFn :=
⟨20,[(.cell 5 true 3)],(.seq (.reg [⟨(some 5),(.a (.alloc 97 [(.bool false),.nilsl,.nilsl])),none,0⟩])
(.seq (.drw [⟨(some 7),(.q (.ld false 1 (.t 1))),none,0⟩,
⟨(some 8),(.q (.mv (.t 0))),none,0⟩,
⟨(some 9),(.x (.call (.t 7) [(.t 8)])),none,3⟩,
⟨(some 10),(.q (.ld true 3 (.t 2))),none,0⟩,
⟨(some 11),(.x (.call (.c (.fn 64 [] [])) [(.t 9),(.t 10)])),none,15⟩,
⟨(some 6),(.a (.alloc 97 [(.bool false),.nilsl,.nilsl])),none,0⟩,
⟨none,(.x (.st 3 (.t 6) (.t 11))),none,63⟩])
(.seq (.drw [⟨(some 12),(.q (.ld false 1 (.t 3))),none,0⟩,
⟨(some 13),(.q (.mv (.t 0))),none,0⟩,
⟨(some 14),(.q (.iaddr (.slice 3) (.t 12) (.t 13))),none,3⟩,
⟨(some 15),(.q (.ld true 3 (.t 14))),none,7⟩,
⟨(some 16),(.q (.ld true 3 (.t 6))),none,0⟩,
⟨(some 17),(.q (.ld true 3 (.t 6))),none,0⟩,
⟨(some 18),(.x (.call (.c (.fn 107 [] [])) [(.t 16),(.t 17)])),none,48⟩,
⟨(some 19),(.x (.call (.c (.fn 106 [] [])) [(.t 15),(.t 18)])),none,127⟩,
⟨none,(.x (.st 3 (.t 5) (.t 19))),none,255⟩])
.ret)))⟩
theorem row105 : Row Tryz.prog (105, a105) := ⟨Tryz.f105, Tryz.func105, by kernel_rfl⟩
noncomputable def a106 : AFn :=
⟨87,[(.cell 4 true 3)],(.seq (.reg [⟨(some 2),(.a (.box 97 (.t 0))),none,0⟩,
⟨(some 3),(.a (.box 97 (.t 1))),none,0⟩,
⟨(some 4),(.a (.alloc 97 [(.bool false),.nilsl,.nilsl])),none,0⟩])
(.seq (.seq (.reg [⟨(some 13),(.q (.faddr 1 (.t 2))),none,0⟩,
⟨(some 14),(.q (.ld false 1 (.t 13))),none,0⟩,
⟨(some 15),(.q (.lenSl (.t 14))),none,0⟩,
⟨(some 16),(.q (.bin .eql (.p .int) (.t 15) (.c (.int .i64 (.ofNat 0))))),none,0⟩])
(.cond (.t 16) (.seq (.reg [⟨(some 17),(.q (.ld true 3 (.t 3))),none,0⟩,
⟨none,(.x (.st 3 (.t 4) (.t 17))),none,0⟩])
.ret) .skip))
(.seq (.seq (.reg [⟨(some 18),(.q (.faddr 1 (.t 3))),none,0⟩,
⟨(some 19),(.q (.ld false 1 (.t 18))),none,0⟩,
⟨(some 20),(.q (.lenSl (.t 19))),none,0⟩,
⟨(some 21),(.q (.bin .eql (.p .int) (.t 20) (.c (.int .i64 (.ofNat 0))))),none,0⟩])
(.cond (.t 21) (.seq (.reg [⟨(some 22),(.q (.ld true 3 (.t 2))),none,0⟩,
⟨none,(.x (.st 3 (.t 4) (.t 22))),none,0⟩])
.ret) .skip))
(.seq (.reg [⟨(some 23),(.q (.faddr 2 (.t 2))),none,0⟩,
⟨(some 24),(.q (.ld false 1 (.t 23))),none,0⟩,
⟨(some 25),(.q (.faddr 2 (.t 3))),none,0⟩,
⟨(some 26),(.q (.ld false 1 (.t 25))),none,0⟩,
⟨(some 27),(.x (.call (.c (.fn 142 [] [])) [(.t 24),(.t 26)])),none,0⟩,
⟨(some 5),(.q (.mv (.t 27))),none,0⟩])
(.seq (.drw [⟨(some 28),(.q (.faddr 2 (.t 2))),none,0⟩,
⟨(some 29),(.q (.ld false 1 (.t 28))),none,1⟩,
⟨(some 30),(.q (.mv (.t 5))),none,0⟩,
⟨(some 31),(.x (.call (.c (.fn 143 [] [])) [(.t 29),(.t 30)])),none,7⟩,
⟨(some 32),(.q (.faddr 2 (.t 3))),none,0⟩,
⟨(some 33),(.q (.ld false 1 (.t 32))),none,16⟩,
⟨(some 34),(.q (.mv (.t 5))),none,0⟩,
⟨(some 35),(.x (.call (.c (.fn 143 [] [])) [(.t 33),(.t 34)])),none,127⟩,
⟨(some 6),(.q (.mv (.t 31))),none,255⟩,
⟨(some 7),(.q (.mv (.t 35))),none,511⟩])
(.seq (.drw [⟨(some 36),(.q (.faddr 1 (.t 2))),none,0⟩,
⟨(some 37),(.q (.ld false 1 (.t 36))),none,1⟩,
⟨(some 38),(.q (.mv (.t 7))),none,0⟩,
⟨(some 39),(.x (.call (.c (.fn 144 [] [])) [(.t 37),(.t 38)])),none,7⟩,
⟨(some 40),(.q (.faddr 1 (.t 3))),none,0⟩,
⟨(some 41),(.q (.ld false 1 (.t 40))),none,16⟩,
⟨(some 42),(.q (.mv (.t 6))),none,0⟩,
⟨(some 43),(.x (.call (.c (.fn 144 [] [])) [(.t 41),(.t 42)])),none,127⟩,
⟨(some 8),(.q (.mv (.t 39))),none,255⟩,
⟨(some 9),(.q (.mv (.t 43))),none,511⟩])
(.seq (.reg [⟨(some 44),(.q (.faddr 0 (.t 2))),none,0⟩,
⟨(some 45),(.q (.ld false 1 (.t 44))),none,0⟩,
⟨(some 10),(.q (.mv (.t 45))),none,0⟩])
(.seq (.seq (.reg [⟨(some 46),(.q (.mv (.t 8))),none,0⟩,
⟨(some 47),(.q (.mv (.t 9))),none,0⟩,
⟨(some 48),(.x (.call (.c (.fn 145 [] [])) [(.t 46),(.t 47)])),none,0⟩,
⟨(some 11),(.q (.mv (.t 48))),none,0⟩])
(.block 0 (.seq (.reg [⟨(some 55),(.q (.faddr 0 (.t 2))),none,0⟩,
⟨(some 56),(.q (.ld false 1 (.t 55))),none,0⟩,
⟨(some 57),(.q (.faddr 0 (.t 3))),none,0⟩,
⟨(some 58),(.q (.ld false 1 (.t 57))),none,0⟩,
⟨(some 59),(.q (.bin .eql (.p .bool) (.t 56) (.t 58))),none,0⟩,
⟨(some 54),(.q (.mv (.t 59))),none,0⟩])
(.cond (.t 54) (.reg [⟨(some 60),(.q (.mv (.t 8))),none,0⟩,
⟨(some 61),(.q (.mv (.t 9))),none,0⟩,
⟨(some 62),(.x (.call (.c (.fn 146 [] [])) [(.t 60),(.t 61)])),none,0⟩,
⟨(some 8),(.q (.mv (.t 62))),none,0⟩]) (.seq (.reg [⟨(some 64),(.q (.mv (.t 11))),none,0⟩,
⟨(some 65),(.q (.bin .eql (.p .int) (.t 64) (.c (.int .i64 (.ofNat 0))))),none,0⟩,
⟨(some 63),(.q (.mv (.t 65))),none,0⟩])
(.cond (.t 63) (.seq (.reg [⟨(some 66),(.q (.build [(.bool false),.nilsl,.nilsl] [])),none,0⟩,
⟨none,(.x (.st 3 (.t 4) (.t 66))),none,0⟩])
.ret) (.seq (.reg [⟨(some 68),(.q (.mv (.t 11))),none,0⟩,
⟨(some 69),(.q (.bin .gtr (.p .int) (.t 68) (.c (.int .i64 (.ofNat 0))))),none,0⟩,
⟨(some 67),(.q (.mv (.t 69))),none,0⟩])
(.cond (.t 67) (.reg [⟨(some 70),(.q (.mv (.t 8))),none,0⟩,
⟨(some 71),(.q (.mv (.t 9))),none,0⟩,
⟨(some 72),(.x (.call (.c (.fn 147 [] [])) [(.t 70),(.t 71)])),none,0⟩,
⟨(some 8),(.q (.mv (.t 72))),none,0⟩]) (.drw [⟨(some 49),(.q (.mv (.t 9))),none,0⟩,
⟨(some 50),(.q (.mv (.t 8))),none,0⟩,
⟨(some 51),(.x (.call (.c (.fn 147 [] [])) [(.t 49),(.t 50)])),none,3⟩,
⟨(some 52),(.q (.faddr 0 (.t 3))),none,0⟩,
⟨(some 53),(.q (.ld false 1 (.t 52))),none,8⟩,
⟨(some 8),(.q (.mv (.t 51))),none,7⟩,
⟨(some 10),(.q (.mv (.t 53))),none,63⟩])))))))))
(.seq (.reg [⟨(some 73),(.q (.mv (.t 8))),none,0⟩,
⟨(some 74),(.q (.mv (.t 5))),none,0⟩,
⟨(some 75),(.x (.call (.c (.fn 142 [] [])) [(.t 73),(.t 74)])),none,0⟩,
⟨(some 12),(.q (.mv (.t 75))),none,0⟩])
(.seq (.drw [⟨(some 76),(.q (.mv (.t 10))),none,0⟩,
⟨(some 77),(.q (.mv (.t 8))),none,0⟩,
⟨(some 78),(.q (.mv (.t 12))),none,0⟩,
⟨(some 79),(.x (.call (.c (.fn 143 [] [])) [(.t 77),(.t 78)])),none,6⟩,
⟨(some 80),(.q (.mv (.t 6))),none,0⟩,
⟨(some 81),(.q (.faddr 2 (.t 3))),none,0⟩,
⟨(some 82),(.q (.ld false 1 (.t 81))),none,32⟩,
⟨(some 83),(.q (.mv (.t 12))),none,0⟩,
⟨(some 84),(.x (.call (.c (.fn 143 [] [])) [(.t 82),(.t 83)])),none,238⟩,
⟨(some 85),(.x (.call (.c (.fn 144 [] [])) [(.t 80),(.t 84)])),none,510⟩,
⟨(some 86),(.q (.build [(.bool false),.nilsl,.nilsl] [(0,1,(.t 76)),(1,1,(.t 79)),(2,1,(.t 85))])),none,1023⟩,
⟨none,(.x (.st 3 (.t 4) (.t 86))),none,2047⟩])
.ret))))))))))⟩
theorem row106 : Row Tryz.prog (106, a106) := ⟨Tryz.f106, Tryz.func106, by kernel_rfl⟩
noncomputable def a107 : AFn :=
⟨56,[(.cell 4 true 3)],(.seq (.reg [⟨(some 2),(.a (.box 97 (.t 0))),none,0⟩,
⟨(some 3),(.a (.box 97 (.t 1))),none,0⟩,
⟨(some 4),(.a (.alloc 97 [(.bool false),.nilsl,.nilsl])),none,0⟩])
(.seq (.seq (.reg [⟨(some 9),(.q (.faddr 1 (.t 2))),none,0⟩,
⟨(some 10),(.q (.ld false 1 (.t 9))),none,0⟩,
⟨(some 11),(.q (.lenSl (.t 10))),none,0⟩,
⟨(some 12),(.q (.bin .eql (.p .int) (.t 11) (.c (.int .i64 (.ofNat 0))))),none,0⟩,
⟨(some 13),(.q (.mv (.t 12))),none,0⟩,
⟨(some 14),(.q (.faddr 1 (.t 3))),(some (13,false)),0⟩,
⟨(some 15),(.q (.ld false 1 (.t 14))),(some (13,false)),0⟩,
⟨(some 16),(.q (.lenSl (.t 15))),(some (13,false)),0⟩,
⟨(some 17),(.q (.bin .eql (.p .int) (.t 16) (.c (.int .i64 (.ofNat 0))))),(some (13,false)),0⟩,
⟨(some 18),(.q (.pick (.t 13) (.c (.bool true)) (.t 17))),none,0⟩])
(.cond (.t 18) (.seq (.reg [⟨(some 19),(.q (.build [(.bool false),.nilsl,.nilsl] [])),none,0⟩,
⟨none,(.x (.st 3 (.t 4) (.t 19))),none,0⟩])
.ret) .skip))
(.seq (.drw [⟨(some 20),(.q (.faddr 1 (.t 2))),none,0⟩,
⟨(some 21),(.q (.ld false 1 (.t 20))),none,1⟩,
⟨(some 22),(.q (.faddr 2 (.t 3))),none,0⟩,
⟨(some 23),(.q (.ld false 1 (.t 22))),none,4⟩,
⟨(some 24),(.x (.call (.c (.fn 142 [] [])) [(.t 21),(.t 23)])),none,15⟩,
⟨(some 25),(.q (.faddr 1 (.t 3))),none,0⟩,
⟨(some 26),(.q (.ld false 1 (.t 25))),none,32⟩,
⟨(some 27),(.q (.faddr 2 (.t 2))),none,0⟩,
⟨(some 28),(.q (.ld false 1 (.t 27))),none,128⟩,
⟨(some 29),(.x (.call (.c (.fn 142 [] [])) [(.t 26),(.t 28)])),none,511⟩,
⟨(some 5),(.q (.mv (.t 24))),none,1023⟩,
⟨(some 6),(.q (.mv (.t 29))),none,2047⟩])
(.seq (.drw [⟨(some 30),(.q (.faddr 1 (.t 2))),none,0⟩,
⟨(some 31),(.q (.ld false 1 (.t 30))),none,1⟩,
⟨(some 32),(.q (.mv (.t 5))),none,0⟩,
⟨(some 33),(.x (.call (.c (.fn 143 [] [])) [(.t 31),(.t 32)])),none,7⟩,
⟨(some 34),(.q (.faddr 1 (.t 3))),none,0⟩,
⟨(some 35),(.q (.ld false 1 (.t 34))),none,16⟩,
⟨(some 36),(.q (.mv (.t 6))),none,0⟩,
⟨(some 37),(.x (.call (.c (.fn 143 [] [])) [(.t 35),(.t 36)])),none,127⟩,
⟨(some 38),(.x (.call (.c (.fn 144 [] [])) [(.t 33),(.t 37)])),none,255⟩,
⟨(some 7),(.q (.mv (.t 38))),none,511⟩])
(.seq (.drw [⟨(some 39),(.q (.faddr 2 (.t 2))),none,0⟩,
⟨(some 40),(.q (.ld false 1 (.t 39))),none,1⟩,
⟨(some 41),(.q (.mv (.t 6))),none,0⟩,
⟨(some 42),(.x (.call (.c (.fn 143 [] [])) [(.t 40),(.t 41)])),none,7⟩,
⟨(some 43),(.q (.faddr 2 (.t 3))),none,0⟩,
⟨(some 44),(.q (.ld false 1 (.t 43))),none,16⟩,
⟨(some 45),(.q (.mv (.t 5))),none,0⟩,
⟨(some 46),(.x (.call (.c (.fn 143 [] [])) [(.t 44),(.t 45)])),none,127⟩,
⟨(some 47),(.x (.call (.c (.fn 144 [] [])) [(.t 42),(.t 46)])),none,255⟩,
⟨(some 8),(.q (.mv (.t 47))),none,511⟩])
(.seq (.reg [⟨(some 48),(.q (.faddr 0 (.t 2))),none,0⟩,
⟨(some 49),(.q (.ld false 1 (.t 48))),none,0⟩,
⟨(some 50),(.q (.faddr 0 (.t 3))),none,0⟩,
⟨(some 51),(.q (.ld false 1 (.t 50))),none,0⟩,
⟨(some 52),(.q (.bin .neq (.p .bool) (.t 49) (.t 51))),none,0⟩,
⟨(some 53),(.q (.mv (.t 7))),none,0⟩,
⟨(some 54),(.q (.mv (.t 8))),none,0⟩,
⟨(some 55),(.q (.build [(.bool false),.nilsl,.nilsl] [(0,1,(.t 52)),(1,1,(.t 53)),(2,1,(.t 54))])),none,0⟩,
⟨none,(.x (.st 3 (.t 4) (.t 55))),none,0⟩])
.ret))))))⟩
theorem row107 : Row Tryz.prog (107, a107) := ⟨Tryz.f107, Tryz.func107, by kernel_rfl⟩
noncomputable def a108 : AFn :=
⟨20,[(.cell 4 true 3)],(.seq (.reg [⟨(some 4),(.a (.alloc 97 [(.bool false),.nilsl,.nilsl])),none,0⟩])
(.seq (.reg [⟨(some 6),(.q (.mv (.t 0))),none,0⟩,
⟨(some 7),(.q (.conv (.int .u64) (.t 6))),none,0⟩,
⟨(some 5),(.q (.mv (.t 7))),none,0⟩])
(.seq (.seq (.reg [⟨(some 8),(.q (.mv (.t 0))),none,0⟩,
⟨(some 9),(.q (.bin .lss (.p .int) (.t 8) (.c (.int .i64 (.ofNat 0))))),none,0⟩])
(.cond (.t 9) (.reg [⟨(some 10),(.q (.mv (.t 5))),none,0⟩,
⟨(some 11),(.q (.un .neg (.t 10))),none,0⟩,
⟨(some 5),(.q (.mv (.t 11))),none,0⟩]) .skip))
(.seq (.reg [⟨(some 12),(.q (.mv (.t 0))),none,0⟩,
⟨(some 13),(.q (.bin .lss (.p .int) (.t 12) (.c (.int .i64 (.ofNat 0))))),none,0⟩,
⟨(some 14),(.q (.mv (.t 5))),none,0⟩,
⟨(some 15),(.x (.call (.c (.fn 149 [] [])) [(.t 14)])),none,0⟩,
⟨(some 16),(.q (.mv (.t 1))),none,0⟩,
⟨(some 17),(.q (.conv (.int .u64) (.t 16))),none,0⟩,
⟨(some 18),(.x (.call (.c (.fn 149 [] [])) [(.t 17)])),none,0⟩,
⟨(some 19),(.x (.call (.c (.fn 148 [] [])) [(.t 13),(.t 15),(.t 18)])),none,0⟩,
⟨none,(.x (.st 3 (.t 4) (.t 19))),none,0⟩])
.ret))))⟩
theorem row108 : Row Tryz.prog (108, a108) := ⟨Tryz.f108, Tryz.func108, by kernel_rfl⟩
noncomputable def a110 : AFn :=
⟨97,[(.t 2),(.t 3)],(.seq (.reg [⟨(some 1),(.a (.box 31 (.t 0))),none,0⟩,
⟨(some 2),(.q (.mv (.c .nilp))),none,0⟩,
⟨(some 3),(.q (.mv (.c (.int .i64 (.ofNat 0))))),none,0⟩])
(.seq (.seq (.reg [⟨(some 10),(.q (.faddr 0 (.t 1))),none,0⟩,
⟨(some 11),(.q (.ld false 1 (.t 10))),none,0⟩,
⟨(some 12),(.q (.bin .lss (.p .int) (.t 11) (.c (.int .i64 (.ofNat 1))))),none,0⟩,
⟨(some 13),(.q (.mv (.t 12))),none,0⟩,
⟨(some 14),(.q (.faddr 0 (.t 1))),(some (13,false)),0⟩,
⟨(some 15),(.q (.ld false 1 (.t 14))),(some (13,false)),0⟩,
⟨(some 16),(.q (.bin .gtr (.p .int) (.t 15) (.c (.int .i64 (.ofNat 4))))),(some (13,false)),0⟩,
⟨(some 17),(.q (.pick (.t 13) (.c (.bool true)) (.t 16))),none,0⟩,
⟨(some 18),(.q (.mv (.t 17))),none,0⟩,
⟨(some 19),(.q (.faddr 1 (.t 1))),(some (18,false)),0⟩,
⟨(some 20),(.q (.ld false 1 (.t 19))),(some (18,false)),0⟩,
⟨(some 21),(.q (.lenSl (.t 20))),(some (18,false)),0⟩,
⟨(some 22),(.q (.bin .lss (.p .int) (.t 21) (.c (.int .i64 (.ofNat 1))))),(some (18,false)),0⟩,
⟨(some 23),(.q (.pick (.t 18) (.c (.bool true)) (.t 22))),none,0⟩,
⟨(some 24),(.q (.mv (.t 23))),none,0⟩,
⟨(some 25),(.q (.faddr 1 (.t 1))),(some (24,false)),0⟩,
⟨(some 26),(.q (.ld false 1 (.t 25))),(some (24,false)),0⟩,
⟨(some 27),(.q (.lenSl (.t 26))),(some (24,false)),0⟩,
⟨(some 28),(.q (.bin .gtr (.p .int) (.t 27) (.c (.int .i64 (.ofNat 2000))))),(some (24,false)),0⟩,
⟨(some 29),(.q (.pick (.t 24) (.c (.bool true)) (.t 28))),none,0⟩,
⟨(some 30),(.q (.mv (.t 29))),none,0⟩,
⟨(some 31),(.q (.faddr 2 (.t 1))),(some (30,false)),0⟩,
⟨(some 32),(.q (.ld false 1 (.t 31))),(some (30,false)),0⟩,
⟨(some 33),(.q (.lenSl (.t 32))),(some (30,false)),0⟩,
⟨(some 34),(.q (.bin .gtr (.p .int) (.t 33) (.c (.int .i64 (.ofNat 200))))),(some (30,false)),0⟩,
⟨(some 35),(.q (.pick (.t 30) (.c (.bool true)) (.t 34))),none,0⟩])
(.cond (.t 35) (.seq (.reg [⟨(some 2),(.q (.mv (.c .nilp))),none,0⟩,
⟨(some 3),(.q (.mv (.c (.int .i64 (.ofNat 2))))),none,0⟩])
.ret) .skip))
(.seq (.reg [⟨(some 36),(.q (.ld true 3 (.t 1))),none,0⟩,
⟨(some 37),(.q (.build [(.int .i64 (.ofNat 0)),.nilsl,.nilsl,.nilsl,.nilsl,.nilsl] [(0,3,(.t 36))])),none,0⟩,
⟨(some 38),(.a (.box 207 (.t 37))),none,0⟩,
⟨(some 4),(.q (.mv (.t 38))),none,0⟩])
(.seq (.seq (.reg [⟨(some 39),(.q (.faddr 1 (.t 1))),none,0⟩,
⟨(some 40),(.q (.ld false 1 (.t 39))),none,0⟩,
⟨(some 41),(.q (.lenSl (.t 40))),none,0⟩,
⟨(some 42),(.q (.mv (.c (.int .i64 (.ofNat 0))))),none,0⟩])
(.block 0 (.loop (.seq (.reg [⟨(some 43),(.q (.bin .lss (.p .int) (.t 42) (.t 41))),none,0⟩])
(.seq (.cond (.t 43) .skip (.exit 0))
(.seq (.block 1 (.seq (.reg [⟨(some 44),(.q (.iaddr (.slice 6) (.t 40) (.t 42))),none,0⟩,
⟨(some 45),(.q (.ld true 6 (.t 44))),none,0⟩,
⟨(some 6),(.a (.alloc 75 [(.int .i64 (.ofNat 0)),(.int .i64 (.ofNat 0)),(.int .i64 (.ofNat 0)),.nilsl,.nilsl,.nilsl])),none,0⟩,
⟨none,(.x (.st 6 (.t 6) (.t 45))),none,0⟩])
(.seq (.reg [⟨(some 46),(.q (.mv (.t 4))),none,0⟩,
⟨(some 47),(.q (.ld true 6 (.t 6))),none,0⟩,
⟨(some 48),(.x (.call (.c (.fn 150 [] [])) [(.t 46),(.t 47)])),none,0⟩,
⟨(some 7),(.q (.mv (.t 48))),none,0⟩])
(.seq (.reg [⟨(some 49),(.q (.mv (.t 7))),none,0⟩,
⟨(some 50),(.q (.bin .neq (.p .int) (.t 49) (.c (.int .i64 (.ofNat 0))))),none,0⟩])
(.cond (.t 50) (.seq (.reg [⟨(some 51),(.q (.mv (.t 7))),none,0⟩,
⟨(some 2),(.q (.mv (.c .nilp))),none,0⟩,
⟨(some 3),(.q (.mv (.t 51))),none,0⟩])
.ret) .skip)))))
(.reg [⟨(some 52),(.q (.bin .add (.p .int) (.t 42) (.c (.int .i64 (.ofNat 1))))),none,0⟩,
⟨(some 42),(.q (.mv (.t 52))),none,0⟩])))))))
(.seq (.drw [⟨(some 53),(.q (.mv (.t 4))),none,0⟩,
⟨(some 54),(.q (.mv (.t 4))),none,0⟩,
⟨(some 55),(.q (.mv (.t 4))),none,0⟩,
⟨(some 56),(.q (.faddr 1 (.t 1))),none,0⟩,
⟨(some 57),(.q (.ld false 1 (.t 56))),none,8⟩,
⟨(some 58),(.q (.lenSl (.t 57))),none,24⟩,
⟨(some 59),(.a (.mkSlice 3 1 8 [(.int .i64 (.ofNat 0))] (.t 58) (.t 58))),none,56⟩,
⟨(some 60),(.q (.faddr 1 (.t 1))),none,0⟩,
⟨(some 61),(.q (.ld false 1 (.t 60))),none,128⟩,
⟨(some 62),(.q (.lenSl (.t 61))),none,384⟩,
⟨(some 63),(.a (.mkSlice 3 1 8 [(.int .i64 (.ofNat 0))] (.t 62) (.t 62))),none,896⟩,
⟨(some 64),(.q (.faddr 1 (.t 1))),none,0⟩,
⟨(some 65),(.q (.ld false 1 (.t 64))),none,2048⟩,
⟨(some 66),(.q (.lenSl (.t 65))),none,6144⟩,
⟨(some 67),(.a (.mkSlice 3 1 8 [(.int .i64 (.ofNat 0))] (.t 66) (.t 66))),none,14336⟩,
⟨(some 68),(.q (.nilchk (.t 53))),none,121⟩,
⟨(some 69),(.q (.faddr 3 (.t 68))),none,32889⟩,
⟨none,(.x (.st 1 (.t 69) (.t 59))),none,98425⟩,
⟨(some 70),(.q (.nilchk (.t 54))),none,231419⟩,
⟨(some 71),(.q (.faddr 4 (.t 70))),none,493563⟩,
⟨none,(.x (.st 1 (.t 71) (.t 63))),none,1017851⟩,
⟨(some 72),(.q (.nilchk (.t 55))),none,2097151⟩,
⟨(some 73),(.q (.faddr 5 (.t 72))),none,4194303⟩,
⟨none,(.x (.st 1 (.t 73) (.t 67))),none,8388607⟩])
(.seq (.seq (.reg [⟨(some 75),(.q (.mv (.t 4))),none,0⟩,
⟨(some 76),(.q (.faddr 1 (.t 1))),none,0⟩,
⟨(some 77),(.q (.ld false 1 (.t 76))),none,0⟩,
⟨(some 78),(.x (.call (.c (.fn 151 [] [])) [(.t 75),(.c (.int .i64 (.negSucc 0))),(.c (.int .i64 (.ofNat 0))),(.t 77)])),none,0⟩,
⟨(some 74),(.q (.mv (.t 78))),none,0⟩,
⟨(some 79),(.q (.extract (.t 74) 0)),none,0⟩,
⟨(some 80),(.q (.extract (.t 74) 1)),none,0⟩,
⟨(some 8),(.q (.mv (.t 79))),none,0⟩,
⟨(some 9),(.q (.mv (.t 80))),none,0⟩])
(.seq (.reg [⟨(some 81),(.q (.mv (.t 9))),none,0⟩,
⟨(some 82),(.q (.un .not (.t 81))),none,0⟩,
⟨(some 83),(.q (.mv (.t 82))),none,0⟩,
⟨(some 84),(.q (.mv (.t 8))),(some (83,false)),0⟩,
⟨(some 85),(.q (.lenSl (.t 84))),(some (83,false)),0⟩,
⟨(some 86),(.q (.bin .gtr (.p .int) (.t 85) (.c (.int .i64 (.ofNat 0))))),(some (83,false)),0⟩,
⟨(some 87),(.q (.pick (.t 83) (.c (.bool true)) (.t 86))),none,0⟩])
(.cond (.t 87) (.seq (.reg [⟨(some 2),(.q (.mv (.c .nilp))),none,0⟩,
⟨(some 3),(.q (.mv (.c (.int .i64 (.ofNat 9))))),none,0⟩])
.ret) .skip)))
(.seq (.seq (.reg [⟨(some 88),(.q (.mv (.t 4))),none,0⟩,
⟨(some 89),(.q (.nilchk (.t 88))),none,0⟩,
⟨(some 90),(.q (.faddr 4 (.t 89))),none,0⟩,
⟨(some 91),(.q (.ld false 1 (.t 90))),none,0⟩,
⟨(some 92),(.x (.call (.c (.fn 152 [] [])) [(.t 91)])),none,0⟩,
⟨(some 93),(.q (.bin .gtr (.p .int) (.t 92) (.c (.int .i64 (.ofNat 40))))),none,0⟩])
(.cond (.t 93) (.seq (.reg [⟨(some 2),(.q (.mv (.c .nilp))),none,0⟩,
⟨(some 3),(.q (.mv (.c (.int .i64 (.ofNat 5))))),none,0⟩])
.ret) .skip))
(.seq (.reg [⟨(some 94),(.q (.mv (.t 4))),none,0⟩,
⟨(some 95),(.q (.mv (.t 4))),none,0⟩,
⟨(some 96),(.x (.call (.c (.fn 153 [] [])) [(.t 95)])),none,0⟩,
⟨(some 2),(.q (.mv (.t 94))),none,0⟩,
⟨(some 3),(.q (.mv (.t 96))),none,0⟩])
.ret))))))))⟩
theorem row110 : Row Tryz.prog (110, a110) := ⟨Tryz.f110, Tryz.func110, by kernel_rfl⟩
noncomputable def a125 : AFn :=
⟨20,[(.t 4)],(.seq (.reg [⟨(some 4),(.q (.mv (.c (.int .i64 (.ofNat 0))))),none,0⟩])
(.seq (.seq (.reg [⟨(some 7),(.q (.mv (.t 0))),none,0⟩,
⟨(some 8),(.x (.call (.c (.fn 167 [] [])) [(.t 7)])),none,0⟩,
⟨(some 5),(.q (.mv (.t 8))),none,0⟩])
(.seq (.reg [⟨(some 9),(.q (.mv (.t 5))),none,0⟩,
⟨(some 10),(.q (.bin .neq (.p .int) (.t 9) (.c (.int .i64 (.ofNat 0))))),none,0⟩])
(.cond (.t 10) (.seq (.reg [⟨(some 11),(.q (.mv (.t 5))),none,0⟩,
⟨(some 4),(.q (.mv (.t 11))),none,0⟩])
.ret) .skip)))
(.seq (.seq (.reg [⟨(some 12),(.q (.mv (.t 1))),none,0⟩,
⟨(some 13),(.x (.call (.c (.fn 167 [] [])) [(.t 12)])),none,0⟩,
⟨(some 6),(.q (.mv (.t 13))),none,0⟩])
(.seq (.reg [⟨(some 14),(.q (.mv (.t 6))),none,0⟩,
⟨(some 15),(.q (.bin .neq (.p .int) (.t 14) (.c (.int .i64 (.ofNat 0))))),none,0⟩])
(.cond (.t 15) (.seq (.reg [⟨(some 16),(.q (.mv (.t 6))),none,0⟩,
⟨(some 4),(.q (.mv (.t 16))),none,0⟩])
.ret) .skip)))
(.seq (.seq (.reg [⟨(some 17),(.q (.mv (.t 1))),none,0⟩,
⟨(some 18),(.q (.lenSl (.t 17))),none,0⟩,
⟨(some 19),(.q (.bin .eql (.p .int) (.t 18) (.c (.int .i64 (.ofNat 0))))),none,0⟩])
(.cond (.t 19) (.seq (.reg [⟨(some 4),(.q (.mv (.c (.int .i64 (.ofNat 6))))),none,0⟩])
.ret) .skip))
(.seq (.reg [⟨(some 4),(.q (.mv (.c (.int .i64 (.ofNat 0))))),none,0⟩])
.ret)))))⟩
theorem row125 : Row Tryz.prog (125, a125) := ⟨Tryz.f125, Tryz.func125, by kernel_rfl⟩
noncomputable def a126 : AFn :=
⟨23,[(.t 4)],(.seq (.reg [⟨(some 4),(.q (.mv (.c (.bool false)))),none,0⟩])
(.seq (.seq (.reg [⟨(some 5),(.q (.mv (.t 0))),none,0⟩,
⟨(some 6),(.q (.lenSl (.t 5))),none,0⟩,
⟨(some 7),(.q (.bin .leq (.p .int) (.t 6) (.c (.int .i64 (.ofNat 2))))),none,0⟩,
⟨(some 8),(.q (.mv (.t 7))),none,0⟩,
⟨(some 9),(.q (.mv (.t 1))),(some (8,true)),0⟩,
⟨(some 10),(.q (.lenSl (.t 9))),(some (8,true)),0⟩,
⟨(some 11),(.q (.bin .leq (.p .int) (.t 10) (.c (.int .i64 (.ofNat 2))))),(some (8,true)),0⟩,
⟨(some 12),(.q (.pick (.t 8) (.t 11) (.c (.bool false)))),none,0⟩])
(.cond (.t 12) (.seq (.reg [⟨(some 13),(.q (.mv (.t 0))),none,0⟩,
⟨(some 14),(.x (.call (.c (.fn 169 [] [])) [(.t 13)])),none,0⟩,
⟨(some 15),(.q (.mv (.t 1))),none,0⟩,
⟨(some 16),(.x (.call (.c (.fn 169 [] [])) [(.t 15)])),none,0⟩,
⟨(some 17),(.x (.call (.c (.fn 168 [] [])) [(.t 14),(.t 16)])),none,0⟩,
⟨(some 18),(.q (.bin .eql (.p .int) (.t 17) (.c (.int .u64 (.ofNat 1))))),none,0⟩,
⟨(some 4),(.q (.mv (.t 18))),none,0⟩])
.ret) .skip))
(.seq (.reg [⟨(some 19),(.q (.mv (.t 0))),none,0⟩,
⟨(some 20),(.q (.mv (.t 1))),none,0⟩,
⟨(some 21),(.x (.call (.c (.fn 171 [] [])) [(.t 19),(.t 20)])),none,0⟩,
⟨(some 22),(.x (.call (.c (.fn 170 [] [])) [(.t 21)])),none,0⟩,
⟨(some 4),(.q (.mv (.t 22))),none,0⟩])
.ret)))⟩
theorem row126 : Row Tryz.prog (126, a126) := ⟨Tryz.f126, Tryz.func126, by kernel_rfl⟩
noncomputable def a128 : AFn :=
⟨44,[],(.seq (.reg [⟨(some 10),(.q (.ld false 1 (.t 1))),none,0⟩,
⟨(some 5),(.q (.mv (.t 10))),none,0⟩,
⟨(some 6),(.q (.mv (.c (.int .i64 (.ofNat 0))))),none,0⟩])
(.block 0 (.loop (.seq (.seq (.reg [⟨(some 11),(.q (.mv (.t 0))),none,0⟩,
⟨(some 12),(.q (.mv (.t 6))),none,0⟩,
⟨(some 13),(.x (.call (.t 11) [(.t 12)])),none,0⟩])
(.cond (.t 13) .skip (.exit 0)))
(.block 1 (.seq (.reg [⟨(some 14),(.q (.faddr 1 (.t 2))),none,0⟩,
⟨(some 15),(.q (.ld false 1 (.t 14))),none,0⟩,
⟨(some 16),(.q (.mv (.t 6))),none,0⟩,
⟨(some 17),(.q (.iaddr (.slice 6) (.t 15) (.t 16))),none,0⟩,
⟨(some 18),(.q (.ld true 6 (.t 17))),none,0⟩,
⟨(some 7),(.a (.alloc 75 [(.int .i64 (.ofNat 0)),(.int .i64 (.ofNat 0)),(.int .i64 (.ofNat 0)),.nilsl,.nilsl,.nilsl])),none,0⟩,
⟨none,(.x (.st 6 (.t 7) (.t 18))),none,0⟩])
(.seq (.seq (.reg [⟨(some 19),(.q (.faddr 0 (.t 7))),none,0⟩,
⟨(some 20),(.q (.ld false 1 (.t 19))),none,0⟩,
⟨(some 21),(.q (.bin .eql (.p .int) (.t 20) (.c (.int .i64 (.ofNat 3))))),none,0⟩])
(.cond (.t 21) .ret .skip))
(.seq (.reg [⟨(some 22),(.q (.ld true 6 (.t 7))),none,0⟩,
⟨(some 23),(.q (.ld false 1 (.t 3))),none,0⟩,
⟨(some 24),(.x (.call (.c (.fn 129 [] [])) [(.t 22),(.t 23)])),none,0⟩,
⟨(some 8),(.q (.mv (.t 24))),none,0⟩])
(.seq (.reg [⟨(some 25),(.q (.mv (.t 8))),none,0⟩,
⟨(some 26),(.q (.ld true 6 (.t 7))),none,0⟩,
⟨(some 27),(.x (.inv [(73,289,none),(134,293,none),(142,86,none)] (.t 25) [(.t 26)])),none,0⟩,
⟨(some 9),(.q (.mv (.t 27))),none,0⟩])
(.seq (.drw [⟨(some 28),(.q (.faddr 3 (.t 7))),none,0⟩,
⟨(some 29),(.q (.ld false 1 (.t 28))),none,1⟩,
⟨(some 30),(.q (.mv (.t 8))),none,0⟩,
⟨(some 31),(.q (.ld true 6 (.t 7))),none,0⟩,
⟨(some 32),(.q (.mv (.t 5))),none,0⟩,
⟨(some 33),(.q (.mv (.t 9))),none,0⟩,
⟨(some 34),(.q (.bin .rem (.p .int) (.t 32) (.t 33))),none,48⟩,
⟨(some 35),(.q (.mkMeth "parlour/deal.choose" [(73,288,none),(134,292,none),(142,295,none)] (.t 30))),none,4⟩,
⟨(some 36),(.q (.nilchk (.t 35))),none,132⟩,
⟨(some 37),(.q (.mv (.t 30))),none,388⟩,
⟨(some 38),(.x (.inv [(73,288,none),(134,292,none),(142,295,none)] (.t 37) [(.t 31),(.t 34)])),none,1020⟩,
⟨(some 39),(.q (.iaddr (.slice 1) (.t 29) (.t 38))),none,2047⟩,
⟨(some 40),(.q (.ld false 1 (.t 39))),none,4095⟩,
⟨(some 6),(.q (.mv (.t 40))),none,8191⟩])
(.reg [⟨(some 41),(.q (.mv (.t 5))),none,0⟩,
⟨(some 42),(.q (.mv (.t 9))),none,0⟩,
⟨(some 43),(.q (.bin .quo (.p .int) (.t 41) (.t 42))),none,0⟩,
⟨(some 5),(.q (.mv (.t 43))),none,0⟩])))))))))))⟩
theorem row128 : Row Tryz.prog (128, a128) := ⟨Tryz.f128, Tryz.func128, by kernel_rfl⟩
noncomputable def a129 : AFn :=
⟨11,[(.t 4)],(.seq (.reg [⟨(some 2),(.a (.box 75 (.t 0))),none,0⟩,
⟨(some 4),(.q (.mv (.c .niliface))),none,0⟩])
(.seq (.seq (.reg [⟨(some 5),(.q (.faddr 0 (.t 2))),none,0⟩,
⟨(some 6),(.q (.ld false 1 (.t 5))),none,0⟩,
⟨(some 7),(.q (.bin .eql (.p .int) (.t 6) (.c (.int .i64 (.ofNat 1))))),none,0⟩])
(.cond (.t 7) (.seq (.reg [⟨(some 8),(.q (.build [] [])),none,0⟩,
⟨(some 9),(.q (.mkIface 142 (.t 8))),none,0⟩,
⟨(some 4),(.q (.mv (.t 9))),none,0⟩])
.ret) .skip))
(.seq (.reg [⟨(some 10),(.q (.mv (.t 1))),none,0⟩,
⟨(some 4),(.q (.mv (.t 10))),none,0⟩])
.ret)))⟩
theorem row129 : Row Tryz.prog (129, a129) := ⟨Tryz.f129, Tryz.func129, by kernel_rfl⟩
noncomputable def a131 : AFn :=
⟨15,[(.t 2)],(.seq (.reg [⟨(some 2),(.q (.mv (.c .nilsl))),none,0⟩])
(.seq (.reg [⟨(some 3),(.q (.mv (.c .nilsl))),none,0⟩])
(.seq (.block 0 (.loop (.seq (.seq (.reg [⟨(some 4),(.q (.mv (.t 0))),none,0⟩,
⟨(some 5),(.q (.bin .gtr (.p .int) (.t 4) (.c (.int .u64 (.ofNat 0))))),none,0⟩])
(.cond (.t 5) .skip (.exit 0)))
(.block 1 (.seq (.reg [⟨(some 6),(.q (.mv (.t 3))),none,0⟩,
⟨(some 7),(.q (.mv (.t 0))),none,0⟩,
⟨(some 8),(.q (.bin .rem (.p .int) (.t 7) (.c (.int .u64 (.ofNat 1000000000))))),none,0⟩,
⟨(some 9),(.q (.conv (.int .u32) (.t 8))),none,0⟩,
⟨(some 10),(.a (.bslice 149 1 1 [(.int .u32 (.ofNat 0))] [(0,(.t 9))])),none,0⟩,
⟨(some 11),(.x (.app 149 1 4 (.t 6) (.t 10))),none,0⟩,
⟨(some 3),(.q (.mv (.t 11))),none,0⟩])
(.reg [⟨(some 12),(.q (.mv (.t 0))),none,0⟩,
⟨(some 13),(.q (.bin .quo (.p .int) (.t 12) (.c (.int .u64 (.ofNat 1000000000))))),none,0⟩,
⟨(some 0),(.q (.mv (.t 13))),none,0⟩]))))))
(.seq (.reg [⟨(some 14),(.q (.mv (.t 3))),none,0⟩,
⟨(some 2),(.q (.mv (.t 14))),none,0⟩])
.ret))))⟩
theorem row131 : Row Tryz.prog (131, a131) := ⟨Tryz.f131, Tryz.func131, by kernel_rfl⟩
noncomputable def a136 : AFn :=
⟨55,[(.cell 2 false 1)],(.seq (.reg [⟨(some 1),(.a (.box 52 (.t 0))),none,0⟩,
⟨(some 2),(.a (.alloc 25 [(.int .i64 (.ofNat 0))])),none,0⟩])
(.seq (.seq (.reg [⟨(some 7),(.q (.faddr 0 (.t 1))),none,0⟩,
⟨(some 8),(.q (.ld false 1 (.t 7))),none,0⟩,
⟨(some 9),(.q (.bin .lss (.p .int) (.t 8) (.c (.int .i64 (.ofNat 1))))),none,0⟩,
⟨(some 10),(.q (.mv (.t 9))),none,0⟩,
⟨(some 11),(.q (.faddr 0 (.t 1))),(some (10,false)),0⟩,
⟨(some 12),(.q (.ld false 1 (.t 11))),(some (10,false)),0⟩,
⟨(some 13),(.q (.bin .gtr (.p .int) (.t 12) (.c (.int .i64 (.ofNat 30))))),(some (10,false)),0⟩,
⟨(some 14),(.q (.pick (.t 10) (.c (.bool true)) (.t 13))),none,0⟩])
(.cond (.t 14) (.seq (.reg [⟨none,(.x (.st 1 (.t 2) (.c (.int .i64 (.ofNat 2))))),none,0⟩])
.ret) .skip))
(.seq (.seq (.reg [⟨(some 15),(.q (.faddr 1 (.t 1))),none,0⟩,
⟨(some 16),(.q (.ld false 1 (.t 15))),none,0⟩,
⟨(some 17),(.q (.lenSl (.t 16))),none,0⟩,
⟨(some 18),(.q (.bin .gtr (.p .int) (.t 17) (.c (.int .i64 (.ofNat 200))))),none,0⟩])
(.cond (.t 18) (.seq (.reg [⟨none,(.x (.st 1 (.t 2) (.c (.int .i64 (.ofNat 4))))),none,0⟩])
.ret) .skip))
(.seq (.seq (.reg [⟨(some 19),(.q (.faddr 1 (.t 1))),none,0⟩,
⟨(some 20),(.q (.ld false 1 (.t 19))),none,0⟩,
⟨(some 21),(.x (.call (.c (.fn 184 [] [])) [(.t 20)])),none,0⟩])
(.block 0 (.rng (.t 21) [22] (.reg [⟨(some 3),(.q (.mv (.t 22))),none,0⟩]) (.block 1 (.seq (.seq (.reg [⟨(some 23),(.q (.mv (.t 3))),none,0⟩,
⟨(some 24),(.q (.lenSl (.t 23))),none,0⟩,
⟨(some 25),(.q (.bin .lss (.p .int) (.t 24) (.c (.int .i64 (.ofNat 1))))),none,0⟩,
⟨(some 26),(.q (.mv (.t 25))),none,0⟩,
⟨(some 27),(.q (.mv (.t 3))),(some (26,false)),0⟩,
⟨(some 28),(.q (.lenSl (.t 27))),(some (26,false)),0⟩,
⟨(some 29),(.q (.bin .gtr (.p .int) (.t 28) (.c (.int .i64 (.ofNat 10))))),(some (26,false)),0⟩,
⟨(some 30),(.q (.pick (.t 26) (.c (.bool true)) (.t 29))),none,0⟩])
(.cond (.t 30) (.seq (.reg [⟨none,(.x (.st 1 (.t 2) (.c (.int .i64 (.ofNat 3))))),none,0⟩])
.ret) .skip))
(.seq (.reg [⟨(some 4),(.q (.mv (.c (.int .i64 (.ofNat 0))))),none,0⟩])
(.seq (.seq (.reg [⟨(some 31),(.q (.mv (.t 3))),none,0⟩,
⟨(some 32),(.q (.lenSl (.t 31))),none,0⟩,
⟨(some 33),(.q (.mv (.c (.int .i64 (.ofNat 0))))),none,0⟩])
(.block 2 (.loop (.seq (.reg [⟨(some 34),(.q (.bin .lss (.p .int) (.t 33) (.t 32))),none,0⟩])
(.seq (.cond (.t 34) .skip (.exit 2))
(.seq (.block 3 (.seq (.reg [⟨(some 35),(.q (.iaddr (.slice 1) (.t 31) (.t 33))),none,0⟩,
⟨(some 36),(.q (.ld false 1 (.t 35))),none,0⟩,
⟨(some 6),(.q (.mv (.t 36))),none,0⟩])
(.seq (.seq (.reg [⟨(some 37),(.q (.mv (.t 6))),none,0⟩,
⟨(some 38),(.q (.bin .lss (.p .int) (.t 37) (.c (.int .i64 (.ofNat 0))))),none,0⟩,
⟨(some 39),(.q (.mv (.t 38))),none,0⟩,
⟨(some 40),(.q (.mv (.t 6))),(some (39,false)),0⟩,
⟨(some 41),(.q (.faddr 0 (.t 1))),(some (39,false)),0⟩,
⟨(some 42),(.q (.ld false 1 (.t 41))),(some (39,false)),0⟩,
⟨(some 43),(.q (.bin .shl (.p .int) (.c (.int .i64 (.ofNat 1))) (.t 42))),(some (39,false)),0⟩,
⟨(some 44),(.q (.bin .gtr (.p .int) (.t 40) (.t 43))),(some (39,false)),0⟩,
⟨(some 45),(.q (.pick (.t 39) (.c (.bool true)) (.t 44))),none,0⟩])
(.cond (.t 45) (.seq (.reg [⟨none,(.x (.st 1 (.t 2) (.c (.int .i64 (.ofNat 2))))),none,0⟩])
.ret) .skip))
(.reg [⟨(some 46),(.q (.mv (.t 4))),none,0⟩,
⟨(some 47),(.q (.mv (.t 6))),none,0⟩,
⟨(some 48),(.q (.bin .add (.p .int) (.t 46) (.t 47))),none,0⟩,
⟨(some 4),(.q (.mv (.t 48))),none,0⟩]))))
(.reg [⟨(some 49),(.q (.bin .add (.p .int) (.t 33) (.c (.int .i64 (.ofNat 1))))),none,0⟩,
⟨(some 33),(.q (.mv (.t 49))),none,0⟩])))))))
(.seq (.reg [⟨(some 50),(.q (.mv (.t 4))),none,0⟩,
⟨(some 51),(.q (.faddr 0 (.t 1))),none,0⟩,
⟨(some 52),(.q (.ld false 1 (.t 51))),none,0⟩,
⟨(some 53),(.q (.bin .shl (.p .int) (.c (.int .i64 (.ofNat 1))) (.t 52))),none,0⟩,
⟨(some 54),(.q (.bin .neq (.p .int) (.t 50) (.t 53))),none,0⟩])
(.cond (.t 54) (.seq (.reg [⟨none,(.x (.st 1 (.t 2) (.c (.int .i64 (.ofNat 14))))),none,0⟩])
.ret) .skip)))))))))
(.seq (.reg [⟨none,(.x (.st 1 (.t 2) (.c (.int .i64 (.ofNat 0))))),none,0⟩])
.ret)))))⟩
theorem row136 : Row Tryz.prog (136, a136) := ⟨Tryz.f136, Tryz.func136, by kernel_rfl⟩
noncomputable def a137 : AFn :=
⟨12,[(.t 4)],(.seq (.reg [⟨(some 4),(.q (.mv (.c (.int .i64 (.ofNat 0))))),none,0⟩])
(.seq (.block 0 (.loop (.seq (.seq (.reg [⟨(some 5),(.q (.mv (.t 1))),none,0⟩,
⟨(some 6),(.q (.bin .neq (.p .int) (.t 5) (.c (.int .i64 (.ofNat 0))))),none,0⟩])
(.cond (.t 6) .skip (.exit 0)))
(.block 1 (.drw [⟨(some 7),(.q (.mv (.t 1))),none,0⟩,
⟨(some 8),(.q (.mv (.t 0))),none,0⟩,
⟨(some 9),(.q (.mv (.t 1))),none,0⟩,
⟨(some 10),(.q (.bin .rem (.p .int) (.t 8) (.t 9))),none,6⟩,
⟨(some 0),(.q (.mv (.t 7))),none,3⟩,
⟨(some 1),(.q (.mv (.t 10))),none,31⟩])))))
(.seq (.reg [⟨(some 11),(.q (.mv (.t 0))),none,0⟩,
⟨(some 4),(.q (.mv (.t 11))),none,0⟩])
.ret)))⟩
theorem row137 : Row Tryz.prog (137, a137) := ⟨Tryz.f137, Tryz.func137, by kernel_rfl⟩
noncomputable def a138 : AFn :=
⟨8,[(.t 2)],(.seq (.reg [⟨(some 2),(.q (.mv (.c .nilsl))),none,0⟩])
(.seq (.seq (.reg [⟨(some 3),(.q (.mv (.t 0))),none,0⟩,
⟨(some 4),(.q (.bin .eql (.p .slice) (.t 3) (.c .nilsl))),none,0⟩])
(.cond (.t 4) (.seq (.reg [⟨(some 2),(.q (.mv (.c .nilsl))),none,0⟩])
.ret) .skip))
(.seq (.reg [⟨(some 5),(.a (.bslice 149 1 0 [(.int .u32 (.ofNat 0))] [])),none,0⟩,
⟨(some 6),(.q (.mv (.t 0))),none,0⟩,
⟨(some 7),(.x (.app 149 1 4 (.t 5) (.t 6))),none,0⟩,
⟨(some 2),(.q (.mv (.t 7))),none,0⟩])
.ret)))⟩
theorem row138 : Row Tryz.prog (138, a138) := ⟨Tryz.f138, Tryz.func138, by kernel_rfl⟩
noncomputable def a139 : AFn :=
⟨15,[(.t 3)],(.seq (.reg [⟨(some 2),(.a (.box 75 (.t 0))),none,0⟩,
⟨(some 3),(.q (.mv (.c .nilsl))),none,0⟩])
(.seq (.seq (.reg [⟨(some 4),(.q (.faddr 0 (.t 2))),none,0⟩,
⟨(some 5),(.q (.ld false 1 (.t 4))),none,0⟩,
⟨(some 6),(.q (.bin .eql (.p .int) (.t 5) (.c (.int .i64 (.ofNat 2))))),none,0⟩])
(.cond (.t 6) (.seq (.reg [⟨(some 7),(.q (.faddr 1 (.t 1))),none,0⟩,
⟨(some 8),(.q (.ld false 1 (.t 7))),none,0⟩,
⟨(some 9),(.q (.faddr 2 (.t 2))),none,0⟩,
⟨(some 10),(.q (.ld false 1 (.t 9))),none,0⟩,
⟨(some 11),(.q (.iaddr (.slice 1) (.t 8) (.t 10))),none,0⟩,
⟨(some 12),(.q (.ld false 1 (.t 11))),none,0⟩,
⟨(some 3),(.q (.mv (.t 12))),none,0⟩])
.ret) .skip))
(.seq (.reg [⟨(some 13),(.q (.faddr 4 (.t 2))),none,0⟩,
⟨(some 14),(.q (.ld false 1 (.t 13))),none,0⟩,
⟨(some 3),(.q (.mv (.t 14))),none,0⟩])
.ret)))⟩
theorem row139 : Row Tryz.prog (139, a139) := ⟨Tryz.f139, Tryz.func139, by kernel_rfl⟩
noncomputable def a140 : AFn :=
⟨6,[(.t 4)],(.seq (.reg [⟨(some 2),(.a (.box 89 (.t 0))),none,0⟩,
⟨(some 3),(.a (.box 3 (.t 1))),none,0⟩,
⟨(some 4),(.q (.mv (.c .nilfn))),none,0⟩])
(.seq (.reg [⟨(some 5),(.q (.mkFunc 185 [] [(.t 2),(.t 3)])),none,0⟩,
⟨(some 4),(.q (.mv (.t 5))),none,0⟩])
.ret))⟩
theorem row140 : Row Tryz.prog (140, a140) := ⟨Tryz.f140, Tryz.func140, by kernel_rfl⟩
noncomputable def a141 : AFn :=
⟨2,[(.t 0)],(.seq (.reg [⟨(some 0),(.q (.mv (.c .nilsl))),none,0⟩])
(.seq (.reg [⟨(some 1),(.a (.bslice 149 1 1 [(.int .u32 (.ofNat 0))] [(0,(.c (.int .u32 (.ofNat 1))))])),none,0⟩,
⟨(some 0),(.q (.mv (.t 1))),none,0⟩])
.ret))⟩
theorem row141 : Row Tryz.prog (141, a141) := ⟨Tryz.f141, Tryz.func141, by kernel_rfl⟩
noncomputable def a142 : AFn :=
⟨71,[(.t 4)],(.seq (.reg [⟨(some 4),(.q (.mv (.c .nilsl))),none,0⟩])
(.seq (.seq (.reg [⟨(some 12),(.q (.mv (.t 0))),none,0⟩,
⟨(some 13),(.q (.mv (.t 1))),none,0⟩,
⟨(some 14),(.x (.call (.c (.fn 145 [] [])) [(.t 12),(.t 13)])),none,0⟩,
⟨(some 15),(.q (.bin .lss (.p .int) (.t 14) (.c (.int .i64 (.ofNat 0))))),none,0⟩])
(.cond (.t 15) (.reg [⟨(some 16),(.q (.mv (.t 1))),none,0⟩,
⟨(some 17),(.q (.mv (.t 0))),none,0⟩,
⟨(some 0),(.q (.mv (.t 16))),none,0⟩,
⟨(some 1),(.q (.mv (.t 17))),none,0⟩]) .skip))
(.seq (.block 0 (.loop (.seq (.seq (.reg [⟨(some 18),(.q (.mv (.t 1))),none,0⟩,
⟨(some 19),(.q (.lenSl (.t 18))),none,0⟩,
⟨(some 20),(.q (.bin .gtr (.p .int) (.t 19) (.c (.int .i64 (.ofNat 2))))),none,0⟩])
(.cond (.t 20) .skip (.exit 0)))
(.block 1 (.seq (.reg [⟨(some 21),(.q (.mv (.t 0))),none,0⟩,
⟨(some 22),(.q (.mv (.t 1))),none,0⟩,
⟨(some 23),(.x (.call (.c (.fn 186 [] [])) [(.t 21),(.t 22)])),none,0⟩,
⟨(some 5),(.a (.alloc 245 [(.int .i64 (.ofNat 0)),(.int .i64 (.ofNat 0)),(.int .i64 (.ofNat 0)),(.int .i64 (.ofNat 0))])),none,0⟩,
⟨none,(.x (.st 4 (.t 5) (.t 23))),none,0⟩])
(.seq (.seq (.reg [⟨(some 24),(.q (.faddr 1 (.t 5))),none,0⟩,
⟨(some 25),(.q (.ld false 1 (.t 24))),none,0⟩,
⟨(some 26),(.q (.bin .eql (.p .int) (.t 25) (.c (.int .i64 (.ofNat 0))))),none,0⟩])
(.cond (.t 26) (.seq (.reg [⟨(some 28),(.q (.mv (.t 0))),none,0⟩,
⟨(some 29),(.q (.mv (.t 1))),none,0⟩,
⟨(some 30),(.x (.call (.c (.fn 187 [] [])) [(.t 28),(.t 29)])),none,0⟩,
⟨(some 27),(.q (.mv (.t 30))),none,0⟩,
⟨(some 31),(.q (.extract (.t 27) 0)),none,0⟩,
⟨(some 32),(.q (.extract (.t 27) 1)),none,0⟩,
⟨(some 6),(.q (.mv (.t 31))),none,0⟩,
⟨(some 7),(.q (.mv (.t 32))),none,0⟩])
(.seq (.reg [⟨(some 33),(.q (.mv (.t 1))),none,0⟩,
⟨(some 34),(.q (.mv (.t 7))),none,0⟩,
⟨(some 0),(.q (.mv (.t 33))),none,0⟩,
⟨(some 1),(.q (.mv (.t 34))),none,0⟩])
(.exit 1))) .skip))
(.drw [⟨(some 35),(.q (.faddr 0 (.t 5))),none,0⟩,
⟨(some 36),(.q (.ld false 1 (.t 35))),none,1⟩,
⟨(some 37),(.q (.mv (.t 0))),none,0⟩,
⟨(some 38),(.q (.faddr 1 (.t 5))),none,0⟩,
⟨(some 39),(.q (.ld false 1 (.t 38))),none,8⟩,
⟨(some 40),(.q (.mv (.t 1))),none,0⟩,
⟨(some 41),(.x (.call (.c (.fn 188 [] [])) [(.t 36),(.t 37),(.t 39),(.t 40)])),none,63⟩,
⟨(some 42),(.q (.faddr 2 (.t 5))),none,0⟩,
⟨(some 43),(.q (.ld false 1 (.t 42))),none,128⟩,
⟨(some 44),(.q (.mv (.t 0))),none,0⟩,
⟨(some 45),(.q (.faddr 3 (.t 5))),none,0⟩,
⟨(some 46),(.q (.ld false 1 (.t 45))),none,1024⟩,
⟨(some 47),(.q (.mv (.t 1))),none,0⟩,
⟨(some 48),(.x (.call (.c (.fn 188 [] [])) [(.t 43),(.t 44),(.t 46),(.t 47)])),none,8191⟩,
⟨(some 0),(.q (.mv (.t 41))),none,16383⟩,
⟨(some 1),(.q (.mv (.t 48))),none,32767⟩])))))))
(.seq (.seq (.reg [⟨(some 49),(.q (.mv (.t 1))),none,0⟩,
⟨(some 50),(.q (.lenSl (.t 49))),none,0⟩,
⟨(some 51),(.q (.bin .eql (.p .int) (.t 50) (.c (.int .i64 (.ofNat 0))))),none,0⟩])
(.cond (.t 51) (.seq (.reg [⟨(some 52),(.q (.mv (.t 0))),none,0⟩,
⟨(some 4),(.q (.mv (.t 52))),none,0⟩])
.ret) .skip))
(.seq (.reg [⟨(some 54),(.q (.mv (.t 0))),none,0⟩,
⟨(some 55),(.q (.mv (.t 1))),none,0⟩,
⟨(some 56),(.x (.call (.c (.fn 187 [] [])) [(.t 54),(.t 55)])),none,0⟩,
⟨(some 53),(.q (.mv (.t 56))),none,0⟩,
⟨(some 57),(.q (.extract (.t 53) 0)),none,0⟩,
⟨(some 58),(.q (.extract (.t 53) 1)),none,0⟩,
⟨(some 8),(.q (.mv (.t 57))),none,0⟩,
⟨(some 9),(.q (.mv (.t 58))),none,0⟩])
(.seq (.reg [⟨(some 59),(.q (.mv (.t 1))),none,0⟩,
⟨(some 60),(.x (.call (.c (.fn 189 [] [])) [(.t 59)])),none,0⟩,
⟨(some 61),(.q (.mv (.t 9))),none,0⟩,
⟨(some 62),(.x (.call (.c (.fn 189 [] [])) [(.t 61)])),none,0⟩,
⟨(some 10),(.q (.mv (.t 60))),none,0⟩,
⟨(some 11),(.q (.mv (.t 62))),none,0⟩])
(.seq (.block 2 (.loop (.seq (.seq (.reg [⟨(some 63),(.q (.mv (.t 11))),none,0⟩,
⟨(some 64),(.q (.bin .neq (.p .int) (.t 63) (.c (.int .u64 (.ofNat 0))))),none,0⟩])
(.cond (.t 64) .skip (.exit 2)))
(.block 3 (.drw [⟨(some 65),(.q (.mv (.t 11))),none,0⟩,
⟨(some 66),(.q (.mv (.t 10))),none,0⟩,
⟨(some 67),(.q (.mv (.t 11))),none,0⟩,
⟨(some 68),(.q (.bin .rem (.p .int) (.t 66) (.t 67))),none,6⟩,
⟨(some 10),(.q (.mv (.t 65))),none,3⟩,
⟨(some 11),(.q (.mv (.t 68))),none,31⟩])))))
(.seq (.reg [⟨(some 69),(.q (.mv (.t 10))),none,0⟩,
⟨(some 70),(.x (.call (.c (.fn 149 [] [])) [(.t 69)])),none,0⟩,
⟨(some 4),(.q (.mv (.t 70))),none,0⟩])
.ret))))))))⟩
theorem row142 : Row Tryz.prog (142, a142) := ⟨Tryz.f142, Tryz.func142, by kernel_rfl⟩
noncomputable def a143 : AFn :=
⟨24,[(.t 4)],(.seq (.reg [⟨(some 4),(.q (.mv (.c .nilsl))),none,0⟩])
(.seq (.seq (.reg [⟨(some 7),(.q (.mv (.t 1))),none,0⟩,
⟨(some 8),(.q (.lenSl (.t 7))),none,0⟩,
⟨(some 9),(.q (.bin .eql (.p .int) (.t 8) (.c (.int .i64 (.ofNat 1))))),none,0⟩,
⟨(some 10),(.q (.mv (.t 9))),none,0⟩,
⟨(some 11),(.q (.mv (.t 1))),(some (10,true)),0⟩,
⟨(some 12),(.q (.iaddr (.slice 1) (.t 11) (.c (.int .i64 (.ofNat 0))))),(some (10,true)),0⟩,
⟨(some 13),(.q (.ld false 1 (.t 12))),(some (10,true)),0⟩,
⟨(some 14),(.q (.bin .eql (.p .int) (.t 13) (.c (.int .u32 (.ofNat 1))))),(some (10,true)),0⟩,
⟨(some 15),(.q (.pick (.t 10) (.t 14) (.c (.bool false)))),none,0⟩])
(.cond (.t 15) (.seq (.reg [⟨(some 16),(.q (.mv (.t 0))),none,0⟩,
⟨(some 4),(.q (.mv (.t 16))),none,0⟩])
.ret) .skip))
(.seq (.reg [⟨(some 18),(.q (.mv (.t 0))),none,0⟩,
⟨(some 19),(.q (.mv (.t 1))),none,0⟩,
⟨(some 20),(.x (.call (.c (.fn 187 [] [])) [(.t 18),(.t 19)])),none,0⟩,
⟨(some 17),(.q (.mv (.t 20))),none,0⟩,
⟨(some 21),(.q (.extract (.t 17) 0)),none,0⟩,
⟨(some 22),(.q (.extract (.t 17) 1)),none,0⟩,
⟨(some 5),(.q (.mv (.t 21))),none,0⟩,
⟨(some 6),(.q (.mv (.t 22))),none,0⟩])
(.seq (.reg [⟨(some 23),(.q (.mv (.t 5))),none,0⟩,
⟨(some 4),(.q (.mv (.t 23))),none,0⟩])
.ret))))⟩
theorem row143 : Row Tryz.prog (143, a143) := ⟨Tryz.f143, Tryz.func143, by kernel_rfl⟩
noncomputable def a144 : AFn :=
⟨76,[(.t 4)],(.seq (.reg [⟨(some 4),(.q (.mv (.c .nilsl))),none,0⟩])
(.seq (.seq (.reg [⟨(some 11),(.q (.mv (.t 0))),none,0⟩,
⟨(some 12),(.q (.lenSl (.t 11))),none,0⟩,
⟨(some 13),(.q (.bin .eql (.p .int) (.t 12) (.c (.int .i64 (.ofNat 0))))),none,0⟩,
⟨(some 14),(.q (.mv (.t 13))),none,0⟩,
⟨(some 15),(.q (.mv (.t 1))),(some (14,false)),0⟩,
⟨(some 16),(.q (.lenSl (.t 15))),(some (14,false)),0⟩,
⟨(some 17),(.q (.bin .eql (.p .int) (.t 16) (.c (.int .i64 (.ofNat 0))))),(some (14,false)),0⟩,
⟨(some 18),(.q (.pick (.t 14) (.c (.bool true)) (.t 17))),none,0⟩])
(.cond (.t 18) (.seq (.reg [⟨(some 4),(.q (.mv (.c .nilsl))),none,0⟩])
.ret) .skip))
(.seq (.reg [⟨(some 19),(.q (.mv (.t 0))),none,0⟩,
⟨(some 20),(.q (.lenSl (.t 19))),none,0⟩,
⟨(some 21),(.q (.mv (.t 1))),none,0⟩,
⟨(some 22),(.q (.lenSl (.t 21))),none,0⟩,
⟨(some 23),(.q (.bin .add (.p .int) (.t 20) (.t 22))),none,0⟩,
⟨(some 24),(.a (.mkSlice 149 1 4 [(.int .u32 (.ofNat 0))] (.t 23) (.t 23))),none,0⟩,
⟨(some 5),(.q (.mv (.t 24))),none,0⟩])
(.seq (.seq (.reg [⟨(some 25),(.q (.mv (.t 0))),none,0⟩,
⟨(some 26),(.q (.lenSl (.t 25))),none,0⟩,
⟨(some 27),(.q (.mv (.c (.int .i64 (.ofNat 0))))),none,0⟩])
(.block 0 (.loop (.seq (.reg [⟨(some 28),(.q (.bin .lss (.p .int) (.t 27) (.t 26))),none,0⟩])
(.seq (.cond (.t 28) .skip (.exit 0))
(.seq (.block 1 (.seq (.reg [⟨(some 29),(.q (.mv (.t 27))),none,0⟩,
⟨(some 30),(.q (.iaddr (.slice 1) (.t 25) (.t 27))),none,0⟩,
⟨(some 31),(.q (.ld false 1 (.t 30))),none,0⟩,
⟨(some 6),(.q (.mv (.t 29))),none,0⟩,
⟨(some 7),(.q (.mv (.t 31))),none,0⟩])
(.seq (.reg [⟨(some 8),(.q (.mv (.c (.int .u64 (.ofNat 0))))),none,0⟩])
(.seq (.seq (.reg [⟨(some 32),(.q (.mv (.t 1))),none,0⟩,
⟨(some 33),(.q (.lenSl (.t 32))),none,0⟩,
⟨(some 34),(.q (.mv (.c (.int .i64 (.ofNat 0))))),none,0⟩])
(.block 2 (.loop (.seq (.reg [⟨(some 35),(.q (.bin .lss (.p .int) (.t 34) (.t 33))),none,0⟩])
(.seq (.cond (.t 35) .skip (.exit 2))
(.seq (.block 3 (.seq (.reg [⟨(some 36),(.q (.mv (.t 34))),none,0⟩,
⟨(some 37),(.q (.iaddr (.slice 1) (.t 32) (.t 34))),none,0⟩,
⟨(some 38),(.q (.ld false 1 (.t 37))),none,0⟩,
⟨(some 9),(.q (.mv (.t 36))),none,0⟩,
⟨(some 10),(.q (.mv (.t 38))),none,0⟩])
(.seq (.reg [⟨(some 39),(.q (.mv (.t 8))),none,0⟩,
⟨(some 40),(.q (.mv (.t 7))),none,0⟩,
⟨(some 41),(.q (.conv (.int .u64) (.t 40))),none,0⟩,
⟨(some 42),(.q (.mv (.t 10))),none,0⟩,
⟨(some 43),(.q (.conv (.int .u64) (.t 42))),none,0⟩,
⟨(some 44),(.q (.bin .mul (.p .int) (.t 41) (.t 43))),none,0⟩,
⟨(some 45),(.q (.mv (.t 5))),none,0⟩,
⟨(some 46),(.q (.mv (.t 6))),none,0⟩,
⟨(some 47),(.q (.mv (.t 9))),none,0⟩,
⟨(some 48),(.q (.bin .add (.p .int) (.t 46) (.t 47))),none,0⟩,
⟨(some 49),(.q (.iaddr (.slice 1) (.t 45) (.t 48))),none,0⟩,
⟨(some 50),(.q (.ld false 1 (.t 49))),none,0⟩,
⟨(some 51),(.q (.conv (.int .u64) (.t 50))),none,0⟩,
⟨(some 52),(.q (.bin .add (.p .int) (.t 44) (.t 51))),none,0⟩,
⟨(some 53),(.q (.bin .add (.p .int) (.t 39) (.t 52))),none,0⟩,
⟨(some 8),(.q (.mv (.t 53))),none,0⟩])
(.seq (.reg [⟨(some 54),(.q (.mv (.t 5))),none,0⟩,
⟨(some 55),(.q (.mv (.t 6))),none,0⟩,
⟨(some 56),(.q (.mv (.t 9))),none,0⟩,
⟨(some 57),(.q (.bin .add (.p .int) (.t 55) (.t 56))),none,0⟩,
⟨(some 58),(.q (.mv (.t 8))),none,0⟩,
⟨(some 59),(.q (.bin .rem (.p .int) (.t 58) (.c (.int .u64 (.ofNat 1000000000))))),none,0⟩,
⟨(some 60),(.q (.conv (.int .u32) (.t 59))),none,0⟩,
⟨(some 61),(.q (.iaddr (.slice 1) (.t 54) (.t 57))),none,0⟩,
⟨none,(.x (.st 1 (.t 61) (.t 60))),none,0⟩])
(.reg [⟨(some 62),(.q (.mv (.t 8))),none,0⟩,
⟨(some 63),(.q (.bin .quo (.p .int) (.t 62) (.c (.int .u64 (.ofNat 1000000000))))),none,0⟩,
⟨(some 8),(.q (.mv (.t 63))),none,0⟩])))))
(.reg [⟨(some 64),(.q (.bin .add (.p .int) (.t 34) (.c (.int .i64 (.ofNat 1))))),none,0⟩,
⟨(some 34),(.q (.mv (.t 64))),none,0⟩])))))))
(.reg [⟨(some 65),(.q (.mv (.t 5))),none,0⟩,
⟨(some 66),(.q (.mv (.t 6))),none,0⟩,
⟨(some 67),(.q (.mv (.t 1))),none,0⟩,
⟨(some 68),(.q (.lenSl (.t 67))),none,0⟩,
⟨(some 69),(.q (.bin .add (.p .int) (.t 66) (.t 68))),none,0⟩,
⟨(some 70),(.q (.mv (.t 8))),none,0⟩,
⟨(some 71),(.q (.conv (.int .u32) (.t 70))),none,0⟩,
⟨(some 72),(.q (.iaddr (.slice 1) (.t 65) (.t 69))),none,0⟩,
⟨none,(.x (.st 1 (.t 72) (.t 71))),none,0⟩])))))
(.reg [⟨(some 73),(.q (.bin .add (.p .int) (.t 27) (.c (.int .i64 (.ofNat 1))))),none,0⟩,
⟨(some 27),(.q (.mv (.t 73))),none,0⟩])))))))
(.seq (.reg [⟨(some 74),(.q (.mv (.t 5))),none,0⟩,
⟨(some 75),(.x (.call (.c (.fn 190 [] [])) [(.t 74)])),none,0⟩,
⟨(some 4),(.q (.mv (.t 75))),none,0⟩])
.ret)))))⟩
theorem row144 : Row Tryz.prog (144, a144) := ⟨Tryz.f144, Tryz.func144, by kernel_rfl⟩
noncomputable def a145 : AFn :=
⟨41,[(.t 4)],(.seq (.reg [⟨(some 4),(.q (.mv (.c (.int .i64 (.ofNat 0))))),none,0⟩])
(.seq (.seq (.reg [⟨(some 6),(.q (.mv (.t 0))),none,0⟩,
⟨(some 7),(.q (.lenSl (.t 6))),none,0⟩,
⟨(some 8),(.q (.mv (.t 1))),none,0⟩,
⟨(some 9),(.q (.lenSl (.t 8))),none,0⟩,
⟨(some 10),(.q (.bin .neq (.p .int) (.t 7) (.t 9))),none,0⟩])
(.cond (.t 10) (.seq (.seq (.reg [⟨(some 11),(.q (.mv (.t 0))),none,0⟩,
⟨(some 12),(.q (.lenSl (.t 11))),none,0⟩,
⟨(some 13),(.q (.mv (.t 1))),none,0⟩,
⟨(some 14),(.q (.lenSl (.t 13))),none,0⟩,
⟨(some 15),(.q (.bin .lss (.p .int) (.t 12) (.t 14))),none,0⟩])
(.cond (.t 15) (.seq (.reg [⟨(some 4),(.q (.mv (.c (.int .i64 (.negSucc 0))))),none,0⟩])
.ret) .skip))
(.seq (.reg [⟨(some 4),(.q (.mv (.c (.int .i64 (.ofNat 1))))),none,0⟩])
.ret)) .skip))
(.seq (.seq (.reg [⟨(some 16),(.q (.mv (.t 0))),none,0⟩,
⟨(some 17),(.q (.lenSl (.t 16))),none,0⟩,
⟨(some 18),(.q (.bin .sub (.p .int) (.t 17) (.c (.int .i64 (.ofNat 1))))),none,0⟩,
⟨(some 5),(.q (.mv (.t 18))),none,0⟩])
(.block 0 (.loop (.seq (.seq (.reg [⟨(some 19),(.q (.mv (.t 5))),none,0⟩,
⟨(some 20),(.q (.bin .geq (.p .int) (.t 19) (.c (.int .i64 (.ofNat 0))))),none,0⟩])
(.cond (.t 20) .skip (.exit 0)))
(.seq (.block 1 (.seq (.seq (.drw [⟨(some 23),(.q (.mv (.t 0))),none,0⟩,
⟨(some 24),(.q (.mv (.t 5))),none,0⟩,
⟨(some 25),(.q (.iaddr (.slice 1) (.t 23) (.t 24))),none,3⟩,
⟨(some 26),(.q (.ld false 1 (.t 25))),none,7⟩,
⟨(some 27),(.q (.mv (.t 1))),none,0⟩,
⟨(some 28),(.q (.mv (.t 5))),none,0⟩,
⟨(some 29),(.q (.iaddr (.slice 1) (.t 27) (.t 28))),none,48⟩,
⟨(some 30),(.q (.ld false 1 (.t 29))),none,112⟩,
⟨(some 31),(.q (.bin .lss (.p .int) (.t 26) (.t 30))),none,255⟩])
(.cond (.t 31) (.seq (.reg [⟨(some 4),(.q (.mv (.c (.int .i64 (.negSucc 0))))),none,0⟩])
.ret) .skip))
(.seq (.drw [⟨(some 32),(.q (.mv (.t 0))),none,0⟩,
⟨(some 33),(.q (.mv (.t 5))),none,0⟩,
⟨(some 34),(.q (.iaddr (.slice 1) (.t 32) (.t 33))),none,3⟩,
⟨(some 35),(.q (.ld false 1 (.t 34))),none,7⟩,
⟨(some 36),(.q (.mv (.t 1))),none,0⟩,
⟨(some 37),(.q (.mv (.t 5))),none,0⟩,
⟨(some 38),(.q (.iaddr (.slice 1) (.t 36) (.t 37))),none,48⟩,
⟨(some 39),(.q (.ld false 1 (.t 38))),none,112⟩,
⟨(some 40),(.q (.bin .gtr (.p .int) (.t 35) (.t 39))),none,255⟩])
(.cond (.t 40) (.seq (.reg [⟨(some 4),(.q (.mv (.c (.int .i64 (.ofNat 1))))),none,0⟩])
.ret) .skip))))
(.reg [⟨(some 21),(.q (.mv (.t 5))),none,0⟩,
⟨(some 22),(.q (.bin .sub (.p .int) (.t 21) (.c (.int .i64 (.ofNat 1))))),none,0⟩,
⟨(some 5),(.q (.mv (.t 22))),none,0⟩]))))))
(.seq (.reg [⟨(some 4),(.q (.mv (.c (.int .i64 (.ofNat 0))))),none,0⟩])
.ret))))⟩
theorem row145 : Row Tryz.prog (145, a145) := ⟨Tryz.f145, Tryz.func145, by kernel_rfl⟩
noncomputable def a146 : AFn :=
⟨47,[(.t 4)],(.seq (.reg [⟨(some 4),(.q (.mv (.c .nilsl))),none,0⟩])
(.seq (.reg [⟨(some 9),(.q (.mv (.t 0))),none,0⟩,
⟨(some 10),(.q (.lenSl (.t 9))),none,0⟩,
⟨(some 11),(.q (.mv (.t 1))),none,0⟩,
⟨(some 12),(.q (.lenSl (.t 11))),none,0⟩,
⟨(some 13),(.q (.minmax true [(.t 10),(.t 12)])),none,0⟩,
⟨(some 5),(.q (.mv (.t 13))),none,0⟩])
(.seq (.reg [⟨(some 14),(.q (.mv (.t 5))),none,0⟩,
⟨(some 15),(.q (.bin .add (.p .int) (.t 14) (.c (.int .i64 (.ofNat 1))))),none,0⟩,
⟨(some 16),(.a (.mkSlice 149 1 4 [(.int .u32 (.ofNat 0))] (.c (.int .i64 (.ofNat 0))) (.t 15))),none,0⟩,
⟨(some 6),(.q (.mv (.t 16))),none,0⟩])
(.seq (.reg [⟨(some 7),(.q (.mv (.c (.int .u64 (.ofNat 0))))),none,0⟩])
(.seq (.seq (.reg [⟨(some 17),(.q (.mv (.t 5))),none,0⟩,
⟨(some 18),(.q (.mv (.c (.int .i64 (.ofNat 0))))),none,0⟩])
(.block 0 (.loop (.seq (.reg [⟨(some 19),(.q (.bin .lss (.p .int) (.t 18) (.t 17))),none,0⟩])
(.seq (.cond (.t 19) .skip (.exit 0))
(.seq (.block 1 (.seq (.reg [⟨(some 20),(.q (.mv (.t 18))),none,0⟩,
⟨(some 8),(.q (.mv (.t 20))),none,0⟩])
(.seq (.reg [⟨(some 21),(.q (.mv (.t 7))),none,0⟩,
⟨(some 22),(.q (.mv (.t 0))),none,0⟩,
⟨(some 23),(.q (.mv (.t 8))),none,0⟩,
⟨(some 24),(.x (.call (.c (.fn 191 [] [])) [(.t 22),(.t 23)])),none,0⟩,
⟨(some 25),(.q (.mv (.t 1))),none,0⟩,
⟨(some 26),(.q (.mv (.t 8))),none,0⟩,
⟨(some 27),(.x (.call (.c (.fn 191 [] [])) [(.t 25),(.t 26)])),none,0⟩,
⟨(some 28),(.q (.bin .add (.p .int) (.t 24) (.t 27))),none,0⟩,
⟨(some 29),(.q (.bin .add (.p .int) (.t 21) (.t 28))),none,0⟩,
⟨(some 7),(.q (.mv (.t 29))),none,0⟩])
(.seq (.reg [⟨(some 30),(.q (.mv (.t 6))),none,0⟩,
⟨(some 31),(.q (.mv (.t 7))),none,0⟩,
⟨(some 32),(.q (.bin .rem (.p .int) (.t 31) (.c (.int .u64 (.ofNat 1000000000))))),none,0⟩,
⟨(some 33),(.q (.conv (.int .u32) (.t 32))),none,0⟩,
⟨(some 34),(.a (.bslice 149 1 1 [(.int .u32 (.ofNat 0))] [(0,(.t 33))])),none,0⟩,
⟨(some 35),(.x (.app 149 1 4 (.t 30) (.t 34))),none,0⟩,
⟨(some 6),(.q (.mv (.t 35))),none,0⟩])
(.reg [⟨(some 36),(.q (.mv (.t 7))),none,0⟩,
⟨(some 37),(.q (.bin .quo (.p .int) (.t 36) (.c (.int .u64 (.ofNat 1000000000))))),none,0⟩,
⟨(some 7),(.q (.mv (.t 37))),none,0⟩])))))
(.reg [⟨(some 38),(.q (.bin .add (.p .int) (.t 18) (.c (.int .i64 (.ofNat 1))))),none,0⟩,
⟨(some 18),(.q (.mv (.t 38))),none,0⟩])))))))
(.seq (.seq (.reg [⟨(some 39),(.q (.mv (.t 7))),none,0⟩,
⟨(some 40),(.q (.bin .gtr (.p .int) (.t 39) (.c (.int .u64 (.ofNat 0))))),none,0⟩])
(.cond (.t 40) (.reg [⟨(some 41),(.q (.mv (.t 6))),none,0⟩,
⟨(some 42),(.q (.mv (.t 7))),none,0⟩,
⟨(some 43),(.q (.conv (.int .u32) (.t 42))),none,0⟩,
⟨(some 44),(.a (.bslice 149 1 1 [(.int .u32 (.ofNat 0))] [(0,(.t 43))])),none,0⟩,
⟨(some 45),(.x (.app 149 1 4 (.t 41) (.t 44))),none,0⟩,
⟨(some 6),(.q (.mv (.t 45))),none,0⟩]) .skip))
(.seq (.reg [⟨(some 46),(.q (.mv (.t 6))),none,0⟩,
⟨(some 4),(.q (.mv (.t 46))),none,0⟩])
.ret)))))))⟩
theorem row146 : Row Tryz.prog (146, a146) := ⟨Tryz.f146, Tryz.func146, by kernel_rfl⟩
noncomputable def a147 : AFn :=
⟨39,[(.t 4)],(.seq (.reg [⟨(some 4),(.q (.mv (.c .nilsl))),none,0⟩])
(.seq (.reg [⟨(some 9),(.q (.mv (.t 0))),none,0⟩,
⟨(some 10),(.q (.lenSl (.t 9))),none,0⟩,
⟨(some 11),(.a (.mkSlice 149 1 4 [(.int .u32 (.ofNat 0))] (.c (.int .i64 (.ofNat 0))) (.t 10))),none,0⟩,
⟨(some 5),(.q (.mv (.t 11))),none,0⟩])
(.seq (.reg [⟨(some 6),(.q (.mv (.c (.int .u64 (.ofNat 0))))),none,0⟩])
(.seq (.seq (.reg [⟨(some 12),(.q (.mv (.t 0))),none,0⟩,
⟨(some 13),(.q (.lenSl (.t 12))),none,0⟩,
⟨(some 14),(.q (.mv (.c (.int .i64 (.ofNat 0))))),none,0⟩])
(.block 0 (.loop (.seq (.reg [⟨(some 15),(.q (.bin .lss (.p .int) (.t 14) (.t 13))),none,0⟩])
(.seq (.cond (.t 15) .skip (.exit 0))
(.seq (.block 1 (.seq (.reg [⟨(some 16),(.q (.mv (.t 14))),none,0⟩,
⟨(some 7),(.q (.mv (.t 16))),none,0⟩])
(.seq (.reg [⟨(some 17),(.q (.mv (.t 0))),none,0⟩,
⟨(some 18),(.q (.mv (.t 7))),none,0⟩,
⟨(some 19),(.x (.call (.c (.fn 191 [] [])) [(.t 17),(.t 18)])),none,0⟩,
⟨(some 20),(.q (.bin .add (.p .int) (.c (.int .u64 (.ofNat 1000000000))) (.t 19))),none,0⟩,
⟨(some 21),(.q (.mv (.t 1))),none,0⟩,
⟨(some 22),(.q (.mv (.t 7))),none,0⟩,
⟨(some 23),(.x (.call (.c (.fn 191 [] [])) [(.t 21),(.t 22)])),none,0⟩,
⟨(some 24),(.q (.bin .sub (.p .int) (.t 20) (.t 23))),none,0⟩,
⟨(some 25),(.q (.mv (.t 6))),none,0⟩,
⟨(some 26),(.q (.bin .sub (.p .int) (.t 24) (.t 25))),none,0⟩,
⟨(some 8),(.q (.mv (.t 26))),none,0⟩])
(.seq (.reg [⟨(some 27),(.q (.mv (.t 5))),none,0⟩,
⟨(some 28),(.q (.mv (.t 8))),none,0⟩,
⟨(some 29),(.q (.bin .rem (.p .int) (.t 28) (.c (.int .u64 (.ofNat 1000000000))))),none,0⟩,
⟨(some 30),(.q (.conv (.int .u32) (.t 29))),none,0⟩,
⟨(some 31),(.a (.bslice 149 1 1 [(.int .u32 (.ofNat 0))] [(0,(.t 30))])),none,0⟩,
⟨(some 32),(.x (.app 149 1 4 (.t 27) (.t 31))),none,0⟩,
⟨(some 5),(.q (.mv (.t 32))),none,0⟩])
(.reg [⟨(some 33),(.q (.mv (.t 8))),none,0⟩,
⟨(some 34),(.q (.bin .quo (.p .int) (.t 33) (.c (.int .u64 (.ofNat 1000000000))))),none,0⟩,
⟨(some 35),(.q (.bin .sub (.p .int) (.c (.int .u64 (.ofNat 1))) (.t 34))),none,0⟩,
⟨(some 6),(.q (.mv (.t 35))),none,0⟩])))))
(.reg [⟨(some 36),(.q (.bin .add (.p .int) (.t 14) (.c (.int .i64 (.ofNat 1))))),none,0⟩,
⟨(some 14),(.q (.mv (.t 36))),none,0⟩])))))))
(.seq (.reg [⟨(some 37),(.q (.mv (.t 5))),none,0⟩,
⟨(some 38),(.x (.call (.c (.fn 190 [] [])) [(.t 37)])),none,0⟩,
⟨(some 4),(.q (.mv (.t 38))),none,0⟩])
.ret)))))⟩
theorem row147 : Row Tryz.prog (147, a147) := ⟨Tryz.f147, Tryz.func147, by kernel_rfl⟩
noncomputable def a148 : AFn :=
⟨23,[(.cell 6 true 3)],(.seq (.reg [⟨(some 6),(.a (.alloc 97 [(.bool false),.nilsl,.nilsl])),none,0⟩])
(.seq (.seq (.reg [⟨(some 8),(.q (.mv (.t 1))),none,0⟩,
⟨(some 9),(.q (.lenSl (.t 8))),none,0⟩,
⟨(some 10),(.q (.bin .eql (.p .int) (.t 9) (.c (.int .i64 (.ofNat 0))))),none,0⟩])
(.cond (.t 10) (.seq (.reg [⟨(some 11),(.q (.build [(.bool false),.nilsl,.nilsl] [])),none,0⟩,
⟨none,(.x (.st 3 (.t 6) (.t 11))),none,0⟩])
.ret) .skip))
(.seq (.reg [⟨(some 12),(.q (.mv (.t 1))),none,0⟩,
⟨(some 13),(.q (.mv (.t 2))),none,0⟩,
⟨(some 14),(.x (.call (.c (.fn 142 [] [])) [(.t 12),(.t 13)])),none,0⟩,
⟨(some 7),(.q (.mv (.t 14))),none,0⟩])
(.seq (.reg [⟨(some 15),(.q (.mv (.t 0))),none,0⟩,
⟨(some 16),(.q (.mv (.t 1))),none,0⟩,
⟨(some 17),(.q (.mv (.t 7))),none,0⟩,
⟨(some 18),(.x (.call (.c (.fn 143 [] [])) [(.t 16),(.t 17)])),none,0⟩,
⟨(some 19),(.q (.mv (.t 2))),none,0⟩,
⟨(some 20),(.q (.mv (.t 7))),none,0⟩,
⟨(some 21),(.x (.call (.c (.fn 143 [] [])) [(.t 19),(.t 20)])),none,0⟩,
⟨(some 22),(.q (.build [(.bool false),.nilsl,.nilsl] [(0,1,(.t 15)),(1,1,(.t 18)),(2,1,(.t 21))])),none,0⟩,
⟨none,(.x (.st 3 (.t 6) (.t 22))),none,0⟩])
.ret))))⟩
theorem row148 : Row Tryz.prog (148, a148) := ⟨Tryz.f148, Tryz.func148, by kernel_rfl⟩
noncomputable def a149 : AFn :=
⟨15,[(.t 2)],(.seq (.reg [⟨(some 2),(.q (.mv (.c .nilsl))),none,0⟩])
(.seq (.reg [⟨(some 3),(.q (.mv (.c .nilsl))),none,0⟩])
(.seq (.block 0 (.loop (.seq (.seq (.reg [⟨(some 4),(.q (.mv (.t 0))),none,0⟩,
⟨(some 5),(.q (.bin .gtr (.p .int) (.t 4) (.c (.int .u64 (.ofNat 0))))),none,0⟩])
(.cond (.t 5) .skip (.exit 0)))
(.seq (.block 1 (.reg [⟨(some 8),(.q (.mv (.t 3))),none,0⟩,
⟨(some 9),(.q (.mv (.t 0))),none,0⟩,
⟨(some 10),(.q (.bin .rem (.p .int) (.t 9) (.c (.int .u64 (.ofNat 1000000000))))),none,0⟩,
⟨(some 11),(.q (.conv (.int .u32) (.t 10))),none,0⟩,
⟨(some 12),(.a (.bslice 149 1 1 [(.int .u32 (.ofNat 0))] [(0,(.t 11))])),none,0⟩,
⟨(some 13),(.x (.app 149 1 4 (.t 8) (.t 12))),none,0⟩,
⟨(some 3),(.q (.mv (.t 13))),none,0⟩]))
(.reg [⟨(some 6),(.q (.mv (.t 0))),none,0⟩,
⟨(some 7),(.q (.bin .quo (.p .int) (.t 6) (.c (.int .u64 (.ofNat 1000000000))))),none,0⟩,
⟨(some 0),(.q (.mv (.t 7))),none,0⟩])))))
(.seq (.reg [⟨(some 14),(.q (.mv (.t 3))),none,0⟩,
⟨(some 2),(.q (.mv (.t 14))),none,0⟩])
.ret))))⟩
theorem row149 : Row Tryz.prog (149, a149) := ⟨Tryz.f149, Tryz.func149, by kernel_rfl⟩
noncomputable def a150 : AFn :=
⟨22,[(.t 4)],(.seq (.reg [⟨(some 3),(.a (.box 75 (.t 1))),none,0⟩,
⟨(some 4),(.q (.mv (.c (.int .i64 (.ofNat 0))))),none,0⟩])
(.seq (.reg [⟨(some 6),(.q (.build [.nilfn,.nilfn,.nilfn,.nilfn] [(1,1,(.c (.fn 192 [] []))),(2,1,(.c (.fn 193 [] []))),(3,1,(.c (.fn 194 [] [])))])),none,0⟩,
⟨(some 5),(.a (.alloc 251 [.nilfn,.nilfn,.nilfn,.nilfn])),none,0⟩,
⟨none,(.x (.st 4 (.t 5) (.t 6))),none,0⟩])
(.seq (.seq (.reg [⟨(some 7),(.q (.faddr 0 (.t 3))),none,0⟩,
⟨(some 8),(.q (.ld false 1 (.t 7))),none,0⟩,
⟨(some 9),(.q (.bin .lss (.p .int) (.t 8) (.c (.int .i64 (.ofNat 1))))),none,0⟩,
⟨(some 10),(.q (.mv (.t 9))),none,0⟩,
⟨(some 11),(.q (.faddr 0 (.t 3))),(some (10,false)),0⟩,
⟨(some 12),(.q (.ld false 1 (.t 11))),(some (10,false)),0⟩,
⟨(some 13),(.q (.bin .gtr (.p .int) (.t 12) (.c (.int .i64 (.ofNat 3))))),(some (10,false)),0⟩,
⟨(some 14),(.q (.pick (.t 10) (.c (.bool true)) (.t 13))),none,0⟩])
(.cond (.t 14) (.seq (.reg [⟨(some 4),(.q (.mv (.c (.int .i64 (.ofNat 3))))),none,0⟩])
.ret) .skip))
(.seq (.drw [⟨(some 15),(.q (.faddr 0 (.t 3))),none,0⟩,
⟨(some 16),(.q (.ld false 1 (.t 15))),none,1⟩,
⟨(some 17),(.q (.iaddr (.arr 4 1) (.t 5) (.t 16))),none,3⟩,
⟨(some 18),(.q (.ld false 1 (.t 17))),none,7⟩,
⟨(some 19),(.q (.mv (.t 0))),none,0⟩,
⟨(some 20),(.q (.ld true 6 (.t 3))),none,0⟩,
⟨(some 21),(.x (.call (.t 18) [(.t 19),(.t 20)])),none,63⟩,
⟨(some 4),(.q (.mv (.t 21))),none,127⟩])
.ret))))⟩
theorem row150 : Row Tryz.prog (150, a150) := ⟨Tryz.f150, Tryz.func150, by kernel_rfl⟩
noncomputable def a151 : AFn :=
⟨92,[(.t 8),(.t 9)],(.seq (.reg [⟨(some 8),(.q (.mv (.c .nilsl))),none,0⟩,
⟨(some 9),(.q (.mv (.c (.bool false)))),none,0⟩])
(.seq (.seq (.reg [⟨(some 15),(.q (.mv (.t 3))),none,0⟩,
⟨(some 16),(.q (.lenSl (.t 15))),none,0⟩,
⟨(some 17),(.q (.bin .eql (.p .int) (.t 16) (.c (.int .i64 (.ofNat 0))))),none,0⟩])
(.cond (.t 17) (.seq (.reg [⟨(some 8),(.q (.mv (.c .nilsl))),none,0⟩,
⟨(some 9),(.q (.mv (.c (.bool false)))),none,0⟩])
.ret) .skip))
(.seq (.reg [⟨(some 18),(.q (.mv (.t 0))),none,0⟩,
⟨(some 19),(.q (.nilchk (.t 18))),none,0⟩,
⟨(some 20),(.q (.faddr 0 (.t 19))),none,0⟩,
⟨(some 21),(.q (.faddr 1 (.t 20))),none,0⟩,
⟨(some 22),(.q (.ld false 1 (.t 21))),none,0⟩,
⟨(some 23),(.q (.lenSl (.t 22))),none,0⟩,
⟨(some 24),(.q (.mv (.t 3))),none,0⟩,
⟨(some 25),(.q (.lenSl (.t 24))),none,0⟩,
⟨(some 26),(.q (.bin .sub (.p .int) (.t 23) (.t 25))),none,0⟩,
⟨(some 10),(.q (.mv (.t 26))),none,0⟩])
(.seq (.drw [⟨(some 27),(.q (.mv (.t 0))),none,0⟩,
⟨(some 28),(.q (.nilchk (.t 27))),none,1⟩,
⟨(some 29),(.q (.faddr 3 (.t 28))),none,3⟩,
⟨(some 30),(.q (.ld false 1 (.t 29))),none,7⟩,
⟨(some 31),(.q (.mv (.t 10))),none,0⟩,
⟨(some 32),(.q (.mv (.t 0))),none,0⟩,
⟨(some 33),(.q (.nilchk (.t 32))),none,32⟩,
⟨(some 34),(.q (.faddr 4 (.t 33))),none,96⟩,
⟨(some 35),(.q (.ld false 1 (.t 34))),none,224⟩,
⟨(some 36),(.q (.mv (.t 10))),none,0⟩,
⟨(some 37),(.q (.mv (.t 1))),none,0⟩,
⟨(some 38),(.q (.mv (.t 2))),none,0⟩,
⟨(some 39),(.q (.iaddr (.slice 1) (.t 30) (.t 31))),none,1535⟩,
⟨none,(.x (.st 1 (.t 39) (.t 37))),none,5631⟩,
⟨(some 40),(.q (.iaddr (.slice 1) (.t 35) (.t 36))),none,16383⟩,
⟨none,(.x (.st 1 (.t 40) (.t 38))),none,32767⟩])
(.seq (.reg [⟨(some 41),(.q (.mv (.t 3))),none,0⟩,
⟨(some 42),(.q (.slc (.slice 6) (.t 41) (some (.c (.int .i64 (.ofNat 1)))) none none)),none,0⟩,
⟨(some 11),(.q (.mv (.t 42))),none,0⟩,
⟨(some 12),(.q (.mv (.c (.bool true)))),none,0⟩])
(.seq (.seq (.reg [⟨(some 43),(.q (.mv (.t 3))),none,0⟩,
⟨(some 44),(.q (.iaddr (.slice 6) (.t 43) (.c (.int .i64 (.ofNat 0))))),none,0⟩,
⟨(some 45),(.q (.faddr 3 (.t 44))),none,0⟩,
⟨(some 46),(.q (.ld false 1 (.t 45))),none,0⟩,
⟨(some 47),(.q (.lenSl (.t 46))),none,0⟩,
⟨(some 48),(.q (.mv (.c (.int .i64 (.ofNat 0))))),none,0⟩])
(.block 0 (.loop (.seq (.reg [⟨(some 49),(.q (.bin .lss (.p .int) (.t 48) (.t 47))),none,0⟩])
(.seq (.cond (.t 49) .skip (.exit 0))
(.seq (.block 1 (.seq (.reg [⟨(some 50),(.q (.iaddr (.slice 1) (.t 46) (.t 48))),none,0⟩,
⟨(some 51),(.q (.ld false 1 (.t 50))),none,0⟩,
⟨(some 14),(.q (.mv (.t 51))),none,0⟩])
(.seq (.seq (.reg [⟨(some 52),(.q (.mv (.t 14))),none,0⟩,
⟨(some 53),(.q (.mv (.t 0))),none,0⟩,
⟨(some 54),(.q (.nilchk (.t 53))),none,0⟩,
⟨(some 55),(.q (.faddr 0 (.t 54))),none,0⟩,
⟨(some 56),(.q (.faddr 1 (.t 55))),none,0⟩,
⟨(some 57),(.q (.ld false 1 (.t 56))),none,0⟩,
⟨(some 58),(.q (.lenSl (.t 57))),none,0⟩,
⟨(some 59),(.q (.mv (.t 11))),none,0⟩,
⟨(some 60),(.q (.lenSl (.t 59))),none,0⟩,
⟨(some 61),(.q (.bin .sub (.p .int) (.t 58) (.t 60))),none,0⟩,
⟨(some 62),(.q (.bin .neq (.p .int) (.t 52) (.t 61))),none,0⟩])
(.cond (.t 62) (.seq (.reg [⟨(some 8),(.q (.mv (.c .nilsl))),none,0⟩,
⟨(some 9),(.q (.mv (.c (.bool false)))),none,0⟩])
.ret) .skip))
(.seq (.reg [⟨(some 64),(.q (.mv (.t 0))),none,0⟩,
⟨(some 65),(.q (.mv (.t 10))),none,0⟩,
⟨(some 66),(.q (.mv (.t 2))),none,0⟩,
⟨(some 67),(.q (.bin .add (.p .int) (.t 66) (.c (.int .i64 (.ofNat 1))))),none,0⟩,
⟨(some 68),(.q (.mv (.t 11))),none,0⟩,
⟨(some 69),(.x (.call (.c (.fn 151 [] [])) [(.t 64),(.t 65),(.t 67),(.t 68)])),none,0⟩,
⟨(some 63),(.q (.mv (.t 69))),none,0⟩,
⟨(some 70),(.q (.extract (.t 63) 0)),none,0⟩,
⟨(some 71),(.q (.extract (.t 63) 1)),none,0⟩,
⟨(some 11),(.q (.mv (.t 70))),none,0⟩,
⟨(some 12),(.q (.mv (.t 71))),none,0⟩])
(.seq (.reg [⟨(some 72),(.q (.mv (.t 12))),none,0⟩,
⟨(some 73),(.q (.un .not (.t 72))),none,0⟩])
(.cond (.t 73) (.seq (.reg [⟨(some 8),(.q (.mv (.c .nilsl))),none,0⟩,
⟨(some 9),(.q (.mv (.c (.bool false)))),none,0⟩])
.ret) .skip))))))
(.reg [⟨(some 74),(.q (.bin .add (.p .int) (.t 48) (.c (.int .i64 (.ofNat 1))))),none,0⟩,
⟨(some 48),(.q (.mv (.t 74))),none,0⟩])))))))
(.seq (.drw [⟨(some 75),(.q (.mv (.t 0))),none,0⟩,
⟨(some 76),(.q (.nilchk (.t 75))),none,1⟩,
⟨(some 77),(.q (.faddr 5 (.t 76))),none,3⟩,
⟨(some 78),(.q (.ld false 1 (.t 77))),none,7⟩,
⟨(some 79),(.q (.mv (.t 10))),none,0⟩,
⟨(some 80),(.q (.mv (.t 0))),none,0⟩,
⟨(some 81),(.q (.nilchk (.t 80))),none,32⟩,
⟨(some 82),(.q (.faddr 0 (.t 81))),none,96⟩,
⟨(some 83),(.q (.faddr 1 (.t 82))),none,224⟩,
⟨(some 84),(.q (.ld false 1 (.t 83))),none,480⟩,
⟨(some 85),(.q (.lenSl (.t 84))),none,992⟩,
⟨(some 86),(.q (.mv (.t 11))),none,0⟩,
⟨(some 87),(.q (.lenSl (.t 86))),none,2048⟩,
⟨(some 88),(.q (.bin .sub (.p .int) (.t 85) (.t 87))),none,8160⟩,
⟨(some 89),(.q (.bin .sub (.p .int) (.t 88) (.c (.int .i64 (.ofNat 1))))),none,16352⟩,
⟨(some 90),(.q (.iaddr (.slice 1) (.t 78) (.t 79))),none,32767⟩,
⟨none,(.x (.st 1 (.t 90) (.t 89))),none,65535⟩])
(.seq (.reg [⟨(some 91),(.q (.mv (.t 11))),none,0⟩,
⟨(some 8),(.q (.mv (.t 91))),none,0⟩,
⟨(some 9),(.q (.mv (.c (.bool true)))),none,0⟩])
.ret))))))))⟩
theorem row151 : Row Tryz.prog (151, a151) := ⟨Tryz.f151, Tryz.func151, by kernel_rfl⟩
end Go.Proofs.YtopemogpgppjlaaGreatDoor.reduceKnown
