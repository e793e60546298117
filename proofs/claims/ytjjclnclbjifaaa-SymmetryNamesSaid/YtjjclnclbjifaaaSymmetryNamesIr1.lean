/- The functions that SymmetryNames reaches, as data of the evaluator (part 1), written by program; each is shown to be the compiler's result on the loaded function. -/
import Derived.Test.YtjjclnclbjifaaaProg
import Derived.Test.YtjjclnclbjifaaaEvZg
import Derived.KernelRfl
namespace Go.Proofs.Ytjjclnclbjifaaa.symmetryNames
open Go.Ev
set_option maxRecDepth 100000
noncomputable def a39 : AFn :=
⟨27,[(.t 4)],(.seq (.reg [⟨(some 4),(.q (.mv (.c .nilsl))),none,0⟩])
(.seq (.reg [⟨(some 8),(.q (.mv (.t 0))),none,0⟩,
⟨(some 9),(.q (.lenSl (.t 8))),none,0⟩,
⟨(some 10),(.a (.mkSlice 3 1 8 [(.int .i64 (.ofNat 0))] (.t 9) (.t 9))),none,0⟩,
⟨(some 5),(.q (.mv (.t 10))),none,0⟩])
(.seq (.seq (.reg [⟨(some 11),(.q (.mv (.t 0))),none,0⟩,
⟨(some 12),(.q (.lenSl (.t 11))),none,0⟩,
⟨(some 13),(.q (.mv (.c (.int .i64 (.ofNat 0))))),none,0⟩])
(.block 0 (.loop (.seq (.reg [⟨(some 14),(.q (.bin .lss (.p .int) (.t 13) (.t 12))),none,0⟩])
(.seq (.cond (.t 14) .skip (.exit 0))
(.seq (.block 1 (.seq (.reg [⟨(some 15),(.q (.mv (.t 13))),none,0⟩,
⟨(some 16),(.q (.iaddr (.slice 1) (.t 11) (.t 13))),none,0⟩,
⟨(some 17),(.q (.ld false 1 (.t 16))),none,0⟩,
⟨(some 6),(.q (.mv (.t 15))),none,0⟩,
⟨(some 7),(.q (.mv (.t 17))),none,0⟩])
(.reg [⟨(some 18),(.q (.mv (.t 5))),none,0⟩,
⟨(some 19),(.q (.mv (.t 6))),none,0⟩,
⟨(some 20),(.q (.mv (.t 1))),none,0⟩,
⟨(some 21),(.q (.mv (.t 7))),none,0⟩,
⟨(some 22),(.q (.iaddr (.slice 1) (.t 20) (.t 21))),none,0⟩,
⟨(some 23),(.q (.ld false 1 (.t 22))),none,0⟩,
⟨(some 24),(.q (.iaddr (.slice 1) (.t 18) (.t 19))),none,0⟩,
⟨none,(.x (.st 1 (.t 24) (.t 23))),none,0⟩])))
(.reg [⟨(some 25),(.q (.bin .add (.p .int) (.t 13) (.c (.int .i64 (.ofNat 1))))),none,0⟩,
⟨(some 13),(.q (.mv (.t 25))),none,0⟩])))))))
(.seq (.reg [⟨(some 26),(.q (.mv (.t 5))),none,0⟩,
⟨(some 4),(.q (.mv (.t 26))),none,0⟩])
.ret))))⟩
theorem row39 : Row Try.prog (39, a39) := ⟨Try.f39, Try.func39, by kernel_rfl⟩
noncomputable def a46 : AFn :=
⟨95,[(.t 6)],(.seq (.reg [⟨(some 4),(.a (.box 3 (.t 1))),none,0⟩,
⟨(some 5),(.a (.box 3 (.t 2))),none,0⟩,
⟨(some 6),(.q (.mv (.c (.bool false)))),none,0⟩])
(.seq (.seq (.drw [⟨(some 11),(.q (.mv (.t 0))),none,0⟩,
⟨(some 12),(.q (.nilchk (.t 11))),none,1⟩,
⟨(some 13),(.q (.faddr 5 (.t 12))),none,3⟩,
⟨(some 14),(.q (.ld false 1 (.t 13))),none,7⟩,
⟨(some 15),(.q (.ld false 1 (.t 4))),none,0⟩,
⟨(some 16),(.q (.iaddr (.slice 1) (.t 14) (.t 15))),none,31⟩,
⟨(some 17),(.q (.ld false 1 (.t 16))),none,63⟩,
⟨(some 18),(.q (.mv (.t 0))),none,0⟩,
⟨(some 19),(.q (.nilchk (.t 18))),none,128⟩,
⟨(some 20),(.q (.faddr 5 (.t 19))),none,384⟩,
⟨(some 21),(.q (.ld false 1 (.t 20))),none,896⟩,
⟨(some 22),(.q (.ld false 1 (.t 5))),none,0⟩,
⟨(some 23),(.q (.iaddr (.slice 1) (.t 21) (.t 22))),none,3968⟩,
⟨(some 24),(.q (.ld false 1 (.t 23))),none,8064⟩,
⟨(some 25),(.q (.bin .neq (.p .int) (.t 17) (.t 24))),none,16383⟩])
(.cond (.t 25) (.seq (.reg [⟨(some 6),(.q (.mv (.c (.bool false)))),none,0⟩])
.ret) .skip))
(.seq (.reg [⟨(some 26),(.q (.mkFunc 69 [] [(.t 4),(.t 5)])),none,0⟩,
⟨(some 7),(.q (.mv (.t 26))),none,0⟩])
(.seq (.seq (.drw [⟨(some 27),(.q (.mv (.t 0))),none,0⟩,
⟨(some 28),(.q (.nilchk (.t 27))),none,1⟩,
⟨(some 29),(.q (.faddr 5 (.t 28))),none,3⟩,
⟨(some 30),(.q (.ld false 1 (.t 29))),none,7⟩,
⟨(some 31),(.q (.ld false 1 (.t 4))),none,0⟩,
⟨(some 32),(.q (.iaddr (.slice 1) (.t 30) (.t 31))),none,31⟩,
⟨(some 33),(.q (.ld false 1 (.t 32))),none,63⟩,
⟨(some 34),(.q (.mv (.c (.int .i64 (.ofNat 0))))),none,0⟩])
(.block 0 (.loop (.seq (.reg [⟨(some 35),(.q (.bin .lss (.p .int) (.t 34) (.t 33))),none,0⟩])
(.seq (.cond (.t 35) .skip (.exit 0))
(.seq (.block 1 (.seq (.reg [⟨(some 36),(.q (.mv (.t 34))),none,0⟩,
⟨(some 8),(.q (.mv (.t 36))),none,0⟩])
(.seq (.drw [⟨(some 37),(.q (.mv (.t 0))),none,0⟩,
⟨(some 38),(.q (.nilchk (.t 37))),none,1⟩,
⟨(some 39),(.q (.faddr 0 (.t 38))),none,3⟩,
⟨(some 40),(.q (.faddr 1 (.t 39))),none,7⟩,
⟨(some 41),(.q (.ld false 1 (.t 40))),none,15⟩,
⟨(some 42),(.q (.ld false 1 (.t 4))),none,0⟩,
⟨(some 43),(.q (.mv (.t 8))),none,0⟩,
⟨(some 44),(.q (.bin .add (.p .int) (.t 42) (.t 43))),none,96⟩,
⟨(some 45),(.q (.iaddr (.slice 6) (.t 41) (.t 44))),none,255⟩,
⟨(some 46),(.q (.ld true 6 (.t 45))),none,511⟩,
⟨(some 47),(.q (.mv (.t 0))),none,0⟩,
⟨(some 48),(.q (.nilchk (.t 47))),none,1024⟩,
⟨(some 49),(.q (.faddr 0 (.t 48))),none,3072⟩,
⟨(some 50),(.q (.faddr 1 (.t 49))),none,7168⟩,
⟨(some 51),(.q (.ld false 1 (.t 50))),none,15360⟩,
⟨(some 52),(.q (.ld false 1 (.t 5))),none,0⟩,
⟨(some 53),(.q (.mv (.t 8))),none,0⟩,
⟨(some 54),(.q (.bin .add (.p .int) (.t 52) (.t 53))),none,98304⟩,
⟨(some 55),(.q (.iaddr (.slice 6) (.t 51) (.t 54))),none,261120⟩,
⟨(some 56),(.q (.ld true 6 (.t 55))),none,523264⟩,
⟨(some 9),(.a (.alloc 74 [(.int .i64 (.ofNat 0)),(.int .i64 (.ofNat 0)),(.int .i64 (.ofNat 0)),.nilsl,.nilsl,.nilsl])),none,0⟩,
⟨(some 10),(.a (.alloc 74 [(.int .i64 (.ofNat 0)),(.int .i64 (.ofNat 0)),(.int .i64 (.ofNat 0)),.nilsl,.nilsl,.nilsl])),none,0⟩,
⟨none,(.x (.st 6 (.t 9) (.t 46))),none,3146751⟩,
⟨none,(.x (.st 6 (.t 10) (.t 56))),none,8388607⟩])
(.seq (.reg [⟨(some 57),(.q (.faddr 0 (.t 9))),none,0⟩,
⟨(some 58),(.q (.ld false 1 (.t 57))),none,0⟩,
⟨(some 59),(.q (.faddr 0 (.t 10))),none,0⟩,
⟨(some 60),(.q (.ld false 1 (.t 59))),none,0⟩,
⟨(some 61),(.q (.bin .neq (.p .int) (.t 58) (.t 60))),none,0⟩,
⟨(some 62),(.q (.mv (.t 61))),none,0⟩,
⟨(some 63),(.q (.faddr 1 (.t 9))),(some (62,false)),0⟩,
⟨(some 64),(.q (.ld false 1 (.t 63))),(some (62,false)),0⟩,
⟨(some 65),(.q (.faddr 1 (.t 10))),(some (62,false)),0⟩,
⟨(some 66),(.q (.ld false 1 (.t 65))),(some (62,false)),0⟩,
⟨(some 67),(.q (.bin .neq (.p .int) (.t 64) (.t 66))),(some (62,false)),0⟩,
⟨(some 68),(.q (.pick (.t 62) (.c (.bool true)) (.t 67))),none,0⟩,
⟨(some 69),(.q (.mv (.t 68))),none,0⟩,
⟨(some 70),(.q (.faddr 5 (.t 9))),(some (69,false)),0⟩,
⟨(some 71),(.q (.ld false 1 (.t 70))),(some (69,false)),0⟩,
⟨(some 72),(.q (.faddr 5 (.t 10))),(some (69,false)),0⟩,
⟨(some 73),(.q (.ld false 1 (.t 72))),(some (69,false)),0⟩,
⟨(some 74),(.x (.call (.c (.fn 70 [] [])) [(.t 71),(.t 73)])),(some (69,false)),0⟩,
⟨(some 75),(.q (.un .not (.t 74))),(some (69,false)),0⟩,
⟨(some 76),(.q (.pick (.t 69) (.c (.bool true)) (.t 75))),none,0⟩,
⟨(some 77),(.q (.mv (.t 76))),none,0⟩,
⟨(some 78),(.q (.faddr 4 (.t 9))),(some (77,false)),0⟩,
⟨(some 79),(.q (.ld false 1 (.t 78))),(some (77,false)),0⟩,
⟨(some 80),(.q (.faddr 4 (.t 10))),(some (77,false)),0⟩,
⟨(some 81),(.q (.ld false 1 (.t 80))),(some (77,false)),0⟩,
⟨(some 82),(.x (.call (.c (.fn 70 [] [])) [(.t 79),(.t 81)])),(some (77,false)),0⟩,
⟨(some 83),(.q (.un .not (.t 82))),(some (77,false)),0⟩,
⟨(some 84),(.q (.pick (.t 77) (.c (.bool true)) (.t 83))),none,0⟩,
⟨(some 85),(.q (.mv (.t 84))),none,0⟩,
⟨(some 86),(.q (.faddr 3 (.t 9))),(some (85,false)),0⟩,
⟨(some 87),(.q (.ld false 1 (.t 86))),(some (85,false)),0⟩,
⟨(some 88),(.q (.faddr 3 (.t 10))),(some (85,false)),0⟩,
⟨(some 89),(.q (.ld false 1 (.t 88))),(some (85,false)),0⟩,
⟨(some 90),(.q (.mv (.t 7))),(some (85,false)),0⟩,
⟨(some 91),(.x (.call (.c (.fn 71 [] [])) [(.t 87),(.t 89),(.t 90)])),(some (85,false)),0⟩,
⟨(some 92),(.q (.un .not (.t 91))),(some (85,false)),0⟩,
⟨(some 93),(.q (.pick (.t 85) (.c (.bool true)) (.t 92))),none,0⟩])
(.cond (.t 93) (.seq (.reg [⟨(some 6),(.q (.mv (.c (.bool false)))),none,0⟩])
.ret) .skip)))))
(.reg [⟨(some 94),(.q (.bin .add (.p .int) (.t 34) (.c (.int .i64 (.ofNat 1))))),none,0⟩,
⟨(some 34),(.q (.mv (.t 94))),none,0⟩])))))))
(.seq (.reg [⟨(some 6),(.q (.mv (.c (.bool true)))),none,0⟩])
.ret)))))⟩
theorem row46 : Row Try.prog (46, a46) := ⟨Try.f46, Try.func46, by kernel_rfl⟩
noncomputable def a47 : AFn :=
⟨39,[(.t 6)],(.seq (.reg [⟨(some 6),(.q (.mv (.c .nilsl))),none,0⟩])
(.seq (.reg [⟨(some 9),(.q (.mv (.t 0))),none,0⟩,
⟨(some 10),(.x (.call (.c (.fn 56 [] [])) [(.t 9)])),none,0⟩,
⟨(some 7),(.q (.mv (.t 10))),none,0⟩])
(.seq (.seq (.reg [⟨(some 11),(.q (.mv (.t 0))),none,0⟩,
⟨(some 12),(.q (.nilchk (.t 11))),none,0⟩,
⟨(some 13),(.q (.faddr 5 (.t 12))),none,0⟩,
⟨(some 14),(.q (.ld false 1 (.t 13))),none,0⟩,
⟨(some 15),(.q (.mv (.t 1))),none,0⟩,
⟨(some 16),(.q (.iaddr (.slice 1) (.t 14) (.t 15))),none,0⟩,
⟨(some 17),(.q (.ld false 1 (.t 16))),none,0⟩,
⟨(some 18),(.q (.mv (.c (.int .i64 (.ofNat 0))))),none,0⟩])
(.block 0 (.loop (.seq (.reg [⟨(some 19),(.q (.bin .lss (.p .int) (.t 18) (.t 17))),none,0⟩])
(.seq (.cond (.t 19) .skip (.exit 0))
(.seq (.block 1 (.seq (.reg [⟨(some 20),(.q (.mv (.t 18))),none,0⟩,
⟨(some 8),(.q (.mv (.t 20))),none,0⟩])
(.reg [⟨(some 21),(.q (.mv (.t 7))),none,0⟩,
⟨(some 22),(.q (.mv (.t 1))),none,0⟩,
⟨(some 23),(.q (.mv (.t 8))),none,0⟩,
⟨(some 24),(.q (.bin .add (.p .int) (.t 22) (.t 23))),none,0⟩,
⟨(some 25),(.q (.mv (.t 7))),none,0⟩,
⟨(some 26),(.q (.mv (.t 2))),none,0⟩,
⟨(some 27),(.q (.mv (.t 8))),none,0⟩,
⟨(some 28),(.q (.bin .add (.p .int) (.t 26) (.t 27))),none,0⟩,
⟨(some 29),(.q (.mv (.t 2))),none,0⟩,
⟨(some 30),(.q (.mv (.t 8))),none,0⟩,
⟨(some 31),(.q (.bin .add (.p .int) (.t 29) (.t 30))),none,0⟩,
⟨(some 32),(.q (.mv (.t 1))),none,0⟩,
⟨(some 33),(.q (.mv (.t 8))),none,0⟩,
⟨(some 34),(.q (.bin .add (.p .int) (.t 32) (.t 33))),none,0⟩,
⟨(some 35),(.q (.iaddr (.slice 1) (.t 21) (.t 24))),none,0⟩,
⟨none,(.x (.st 1 (.t 35) (.t 31))),none,0⟩,
⟨(some 36),(.q (.iaddr (.slice 1) (.t 25) (.t 28))),none,0⟩,
⟨none,(.x (.st 1 (.t 36) (.t 34))),none,0⟩])))
(.reg [⟨(some 37),(.q (.bin .add (.p .int) (.t 18) (.c (.int .i64 (.ofNat 1))))),none,0⟩,
⟨(some 18),(.q (.mv (.t 37))),none,0⟩])))))))
(.seq (.reg [⟨(some 38),(.q (.mv (.t 7))),none,0⟩,
⟨(some 6),(.q (.mv (.t 38))),none,0⟩])
.ret))))⟩
theorem row47 : Row Try.prog (47, a47) := ⟨Try.f47, Try.func47, by kernel_rfl⟩
noncomputable def a48 : AFn :=
⟨64,[(.cell 4 true 2),(.t 5)],(.seq (.reg [⟨(some 2),(.a (.box 64 (.t 0))),none,0⟩,
⟨(some 3),(.a (.box 22 (.t 1))),none,0⟩,
⟨(some 4),(.a (.alloc 68 [.nilsl,.nilsl])),none,0⟩,
⟨(some 5),(.q (.mv (.c (.bool false)))),none,0⟩])
(.seq (.drw [⟨(some 11),(.q (.ld false 1 (.t 2))),none,0⟩,
⟨(some 12),(.q (.nilchk (.t 11))),none,1⟩,
⟨(some 13),(.q (.faddr 0 (.t 12))),none,3⟩,
⟨(some 14),(.q (.faddr 2 (.t 13))),none,7⟩,
⟨(some 15),(.q (.ld false 1 (.t 14))),none,15⟩,
⟨(some 16),(.q (.lenSl (.t 15))),none,31⟩,
⟨(some 17),(.x (.call (.c (.fn 72 [] [])) [(.t 16)])),none,63⟩,
⟨(some 18),(.q (.ld false 1 (.t 2))),none,0⟩,
⟨(some 19),(.q (.nilchk (.t 18))),none,128⟩,
⟨(some 20),(.q (.faddr 0 (.t 19))),none,384⟩,
⟨(some 21),(.q (.faddr 2 (.t 20))),none,896⟩,
⟨(some 22),(.q (.ld false 1 (.t 21))),none,1920⟩,
⟨(some 23),(.q (.lenSl (.t 22))),none,3968⟩,
⟨(some 24),(.a (.mkSlice 22 1 24 [.nilsl] (.t 23) (.t 23))),none,8064⟩,
⟨(some 25),(.q (.build [.nilsl,.nilsl] [(0,1,(.t 17)),(1,1,(.t 24))])),none,16383⟩,
⟨(some 6),(.a (.alloc 68 [.nilsl,.nilsl])),none,0⟩,
⟨none,(.x (.st 2 (.t 6) (.t 25))),none,65535⟩])
(.seq (.reg [⟨(some 26),(.q (.ld false 1 (.t 2))),none,0⟩,
⟨(some 27),(.q (.nilchk (.t 26))),none,0⟩,
⟨(some 28),(.q (.faddr 0 (.t 27))),none,0⟩,
⟨(some 29),(.q (.faddr 2 (.t 28))),none,0⟩,
⟨(some 30),(.q (.ld false 1 (.t 29))),none,0⟩,
⟨(some 31),(.q (.lenSl (.t 30))),none,0⟩,
⟨(some 32),(.x (.call (.c (.fn 72 [] [])) [(.t 31)])),none,0⟩,
⟨(some 7),(.a (.alloc 22 [.nilsl])),none,0⟩,
⟨none,(.x (.st 1 (.t 7) (.t 32))),none,0⟩])
(.seq (.seq (.reg [⟨(some 33),(.q (.ld false 1 (.t 2))),none,0⟩,
⟨(some 34),(.q (.nilchk (.t 33))),none,0⟩,
⟨(some 35),(.q (.faddr 0 (.t 34))),none,0⟩,
⟨(some 36),(.q (.faddr 2 (.t 35))),none,0⟩,
⟨(some 37),(.q (.ld false 1 (.t 36))),none,0⟩,
⟨(some 38),(.q (.lenSl (.t 37))),none,0⟩,
⟨(some 39),(.q (.mv (.c (.int .i64 (.ofNat 0))))),none,0⟩])
(.block 0 (.loop (.seq (.reg [⟨(some 40),(.q (.bin .lss (.p .int) (.t 39) (.t 38))),none,0⟩])
(.seq (.cond (.t 40) .skip (.exit 0))
(.seq (.block 1 (.seq (.reg [⟨(some 41),(.q (.mv (.t 39))),none,0⟩,
⟨(some 42),(.q (.iaddr (.slice 2) (.t 37) (.t 39))),none,0⟩,
⟨(some 43),(.q (.ld true 2 (.t 42))),none,0⟩,
⟨(some 9),(.a (.alloc 48 [(.int .i64 (.ofNat 0)),(.int .i64 (.ofNat 0))])),none,0⟩,
⟨(some 8),(.q (.mv (.t 41))),none,0⟩,
⟨none,(.x (.st 2 (.t 9) (.t 43))),none,0⟩])
(.drw [⟨(some 44),(.q (.faddr 1 (.t 6))),none,0⟩,
⟨(some 45),(.q (.ld false 1 (.t 44))),none,1⟩,
⟨(some 46),(.q (.mv (.t 8))),none,0⟩,
⟨(some 47),(.q (.faddr 1 (.t 9))),none,0⟩,
⟨(some 48),(.q (.ld false 1 (.t 47))),none,8⟩,
⟨(some 49),(.x (.call (.c (.fn 72 [] [])) [(.t 48)])),none,24⟩,
⟨(some 50),(.q (.iaddr (.slice 1) (.t 45) (.t 46))),none,63⟩,
⟨none,(.x (.st 1 (.t 50) (.t 49))),none,127⟩])))
(.reg [⟨(some 51),(.q (.bin .add (.p .int) (.t 39) (.c (.int .i64 (.ofNat 1))))),none,0⟩,
⟨(some 39),(.q (.mv (.t 51))),none,0⟩])))))))
(.seq (.reg [⟨(some 10),(.a (.alloc 78 [.nilfn])),none,0⟩])
(.seq (.reg [⟨(some 52),(.q (.mkFunc 73 [] [(.t 2),(.t 6),(.t 7),(.t 3),(.t 10)])),none,0⟩,
⟨none,(.x (.st 1 (.t 10) (.t 52))),none,0⟩])
(.seq (.seq (.reg [⟨(some 53),(.q (.ld false 1 (.t 3))),none,0⟩,
⟨(some 54),(.q (.iaddr (.slice 1) (.t 53) (.c (.int .i64 (.ofNat 0))))),none,0⟩,
⟨(some 55),(.q (.ld false 1 (.t 54))),none,0⟩,
⟨(some 56),(.q (.bin .neq (.p .int) (.t 55) (.c (.int .i64 (.ofNat 0))))),none,0⟩,
⟨(some 57),(.q (.mv (.t 56))),none,0⟩,
⟨(some 58),(.q (.ld false 1 (.t 10))),(some (57,false)),0⟩,
⟨(some 59),(.x (.call (.t 58) [(.c (.int .i64 (.ofNat 0))),(.c (.int .i64 (.ofNat 0)))])),(some (57,false)),0⟩,
⟨(some 60),(.q (.un .not (.t 59))),(some (57,false)),0⟩,
⟨(some 61),(.q (.pick (.t 57) (.c (.bool true)) (.t 60))),none,0⟩])
(.cond (.t 61) (.seq (.reg [⟨(some 62),(.q (.build [.nilsl,.nilsl] [])),none,0⟩,
⟨none,(.x (.st 2 (.t 4) (.t 62))),none,0⟩,
⟨(some 5),(.q (.mv (.c (.bool false)))),none,0⟩])
.ret) .skip))
(.seq (.reg [⟨(some 63),(.q (.ld true 2 (.t 6))),none,0⟩,
⟨none,(.x (.st 2 (.t 4) (.t 63))),none,0⟩,
⟨(some 5),(.q (.mv (.c (.bool true)))),none,0⟩])
.ret))))))))⟩
theorem row48 : Row Try.prog (48, a48) := ⟨Try.f48, Try.func48, by kernel_rfl⟩
noncomputable def a51 : AFn :=
⟨35,[(.t 4),(.t 5)],(.seq (.reg [⟨(some 4),(.q (.mv (.c .nilsl))),none,0⟩,
⟨(some 5),(.q (.mv (.c (.int .i64 (.ofNat 0))))),none,0⟩])
(.seq (.seq (.reg [⟨(some 11),(.q (.mv (.t 1))),none,0⟩,
⟨(some 12),(.q (.lenSl (.t 11))),none,0⟩,
⟨(some 13),(.q (.bin .gtr (.p .int) (.t 12) (.c (.int .i64 (.ofNat 16))))),none,0⟩])
(.cond (.t 13) (.seq (.reg [⟨(some 4),(.q (.mv (.c .nilsl))),none,0⟩,
⟨(some 5),(.q (.mv (.c (.int .i64 (.ofNat 4))))),none,0⟩])
.ret) .skip))
(.seq (.reg [⟨(some 6),(.q (.mv (.c .nilsl))),none,0⟩])
(.seq (.seq (.reg [⟨(some 14),(.q (.mv (.t 1))),none,0⟩,
⟨(some 15),(.q (.lenSl (.t 14))),none,0⟩,
⟨(some 16),(.q (.mv (.c (.int .i64 (.ofNat 0))))),none,0⟩])
(.block 0 (.loop (.seq (.reg [⟨(some 17),(.q (.bin .lss (.p .int) (.t 16) (.t 15))),none,0⟩])
(.seq (.cond (.t 17) .skip (.exit 0))
(.seq (.block 1 (.seq (.reg [⟨(some 18),(.q (.iaddr (.slice 1) (.t 14) (.t 16))),none,0⟩,
⟨(some 19),(.q (.ld false 1 (.t 18))),none,0⟩,
⟨(some 8),(.q (.mv (.t 19))),none,0⟩])
(.seq (.reg [⟨(some 21),(.q (.mv (.t 0))),none,0⟩,
⟨(some 22),(.q (.mv (.t 8))),none,0⟩,
⟨(some 23),(.x (.call (.c (.fn 38 [] [])) [(.t 21),(.t 22)])),none,0⟩,
⟨(some 20),(.q (.mv (.t 23))),none,0⟩,
⟨(some 24),(.q (.extract (.t 20) 0)),none,0⟩,
⟨(some 25),(.q (.extract (.t 20) 1)),none,0⟩,
⟨(some 9),(.a (.alloc 68 [.nilsl,.nilsl])),none,0⟩,
⟨none,(.x (.st 2 (.t 9) (.t 24))),none,0⟩,
⟨(some 10),(.q (.mv (.t 25))),none,0⟩])
(.seq (.seq (.reg [⟨(some 26),(.q (.mv (.t 10))),none,0⟩,
⟨(some 27),(.q (.bin .neq (.p .int) (.t 26) (.c (.int .i64 (.ofNat 0))))),none,0⟩])
(.cond (.t 27) (.seq (.reg [⟨(some 28),(.q (.mv (.t 10))),none,0⟩,
⟨(some 4),(.q (.mv (.c .nilsl))),none,0⟩,
⟨(some 5),(.q (.mv (.t 28))),none,0⟩])
.ret) .skip))
(.reg [⟨(some 29),(.q (.mv (.t 6))),none,0⟩,
⟨(some 30),(.q (.ld true 2 (.t 9))),none,0⟩,
⟨(some 31),(.a (.bslice 68 2 1 [.nilsl,.nilsl] [(0,(.t 30))])),none,0⟩,
⟨(some 32),(.x (.app 68 2 48 (.t 29) (.t 31))),none,0⟩,
⟨(some 6),(.q (.mv (.t 32))),none,0⟩])))))
(.reg [⟨(some 33),(.q (.bin .add (.p .int) (.t 16) (.c (.int .i64 (.ofNat 1))))),none,0⟩,
⟨(some 16),(.q (.mv (.t 33))),none,0⟩])))))))
(.seq (.reg [⟨(some 34),(.q (.mv (.t 6))),none,0⟩,
⟨(some 4),(.q (.mv (.t 34))),none,0⟩,
⟨(some 5),(.q (.mv (.c (.int .i64 (.ofNat 0))))),none,0⟩])
.ret)))))⟩
theorem row51 : Row Try.prog (51, a51) := ⟨Try.f51, Try.func51, by kernel_rfl⟩
noncomputable def a52 : AFn :=
⟨67,[(.t 4)],(.seq (.reg [⟨(some 4),(.q (.mv (.c .nilsl))),none,0⟩])
(.seq (.reg [⟨(some 13),(.q (.mv (.t 0))),none,0⟩,
⟨(some 14),(.a (.mkSlice 3 1 8 [(.int .i64 (.ofNat 0))] (.t 13) (.t 13))),none,0⟩,
⟨(some 15),(.q (.build [.nilsl] [(0,1,(.t 14))])),none,0⟩,
⟨(some 16),(.a (.box 110 (.t 15))),none,0⟩,
⟨(some 5),(.q (.mv (.t 16))),none,0⟩])
(.seq (.seq (.reg [⟨(some 17),(.q (.mv (.t 5))),none,0⟩,
⟨(some 18),(.q (.nilchk (.t 17))),none,0⟩,
⟨(some 19),(.q (.faddr 0 (.t 18))),none,0⟩,
⟨(some 20),(.q (.ld false 1 (.t 19))),none,0⟩,
⟨(some 21),(.q (.lenSl (.t 20))),none,0⟩,
⟨(some 22),(.q (.mv (.c (.int .i64 (.ofNat 0))))),none,0⟩])
(.block 0 (.loop (.seq (.reg [⟨(some 23),(.q (.bin .lss (.p .int) (.t 22) (.t 21))),none,0⟩])
(.seq (.cond (.t 23) .skip (.exit 0))
(.seq (.block 1 (.seq (.reg [⟨(some 24),(.q (.mv (.t 22))),none,0⟩,
⟨(some 6),(.q (.mv (.t 24))),none,0⟩])
(.reg [⟨(some 25),(.q (.mv (.t 5))),none,0⟩,
⟨(some 26),(.q (.nilchk (.t 25))),none,0⟩,
⟨(some 27),(.q (.faddr 0 (.t 26))),none,0⟩,
⟨(some 28),(.q (.ld false 1 (.t 27))),none,0⟩,
⟨(some 29),(.q (.mv (.t 6))),none,0⟩,
⟨(some 30),(.q (.mv (.t 6))),none,0⟩,
⟨(some 31),(.q (.iaddr (.slice 1) (.t 28) (.t 29))),none,0⟩,
⟨none,(.x (.st 1 (.t 31) (.t 30))),none,0⟩])))
(.reg [⟨(some 32),(.q (.bin .add (.p .int) (.t 22) (.c (.int .i64 (.ofNat 1))))),none,0⟩,
⟨(some 22),(.q (.mv (.t 32))),none,0⟩])))))))
(.seq (.seq (.reg [⟨(some 33),(.q (.mv (.t 1))),none,0⟩,
⟨(some 34),(.q (.lenSl (.t 33))),none,0⟩,
⟨(some 35),(.q (.mv (.c (.int .i64 (.ofNat 0))))),none,0⟩])
(.block 2 (.loop (.seq (.reg [⟨(some 36),(.q (.bin .lss (.p .int) (.t 35) (.t 34))),none,0⟩])
(.seq (.cond (.t 36) .skip (.exit 2))
(.seq (.block 3 (.seq (.reg [⟨(some 37),(.q (.iaddr (.slice 1) (.t 33) (.t 35))),none,0⟩,
⟨(some 38),(.q (.ld false 1 (.t 37))),none,0⟩,
⟨(some 8),(.q (.mv (.t 38))),none,0⟩])
(.seq (.reg [⟨(some 39),(.q (.mv (.t 8))),none,0⟩,
⟨(some 40),(.q (.lenSl (.t 39))),none,0⟩,
⟨(some 41),(.q (.mv (.c (.int .i64 (.ofNat 0))))),none,0⟩])
(.block 4 (.loop (.seq (.reg [⟨(some 42),(.q (.bin .lss (.p .int) (.t 41) (.t 40))),none,0⟩])
(.seq (.cond (.t 42) .skip (.exit 4))
(.seq (.block 5 (.seq (.reg [⟨(some 43),(.q (.mv (.t 41))),none,0⟩,
⟨(some 44),(.q (.iaddr (.slice 1) (.t 39) (.t 41))),none,0⟩,
⟨(some 45),(.q (.ld false 1 (.t 44))),none,0⟩,
⟨(some 9),(.q (.mv (.t 43))),none,0⟩,
⟨(some 10),(.q (.mv (.t 45))),none,0⟩])
(.reg [⟨(some 46),(.q (.mv (.t 5))),none,0⟩,
⟨(some 47),(.q (.mv (.t 9))),none,0⟩,
⟨(some 48),(.q (.mv (.t 10))),none,0⟩,
⟨(some 49),(.x (.call (.c (.fn 75 [] [])) [(.t 46),(.t 47),(.t 48)])),none,0⟩])))
(.reg [⟨(some 50),(.q (.bin .add (.p .int) (.t 41) (.c (.int .i64 (.ofNat 1))))),none,0⟩,
⟨(some 41),(.q (.mv (.t 50))),none,0⟩])))))))))
(.reg [⟨(some 51),(.q (.bin .add (.p .int) (.t 35) (.c (.int .i64 (.ofNat 1))))),none,0⟩,
⟨(some 35),(.q (.mv (.t 51))),none,0⟩])))))))
(.seq (.reg [⟨(some 52),(.q (.mv (.t 0))),none,0⟩,
⟨(some 53),(.a (.mkSlice 3 1 8 [(.int .i64 (.ofNat 0))] (.t 52) (.t 52))),none,0⟩,
⟨(some 11),(.q (.mv (.t 53))),none,0⟩])
(.seq (.seq (.reg [⟨(some 54),(.q (.mv (.t 11))),none,0⟩,
⟨(some 55),(.q (.lenSl (.t 54))),none,0⟩,
⟨(some 56),(.q (.mv (.c (.int .i64 (.ofNat 0))))),none,0⟩])
(.block 6 (.loop (.seq (.reg [⟨(some 57),(.q (.bin .lss (.p .int) (.t 56) (.t 55))),none,0⟩])
(.seq (.cond (.t 57) .skip (.exit 6))
(.seq (.block 7 (.seq (.reg [⟨(some 58),(.q (.mv (.t 56))),none,0⟩,
⟨(some 12),(.q (.mv (.t 58))),none,0⟩])
(.reg [⟨(some 59),(.q (.mv (.t 11))),none,0⟩,
⟨(some 60),(.q (.mv (.t 12))),none,0⟩,
⟨(some 61),(.q (.mv (.t 5))),none,0⟩,
⟨(some 62),(.q (.mv (.t 12))),none,0⟩,
⟨(some 63),(.x (.call (.c (.fn 76 [] [])) [(.t 61),(.t 62)])),none,0⟩,
⟨(some 64),(.q (.iaddr (.slice 1) (.t 59) (.t 60))),none,0⟩,
⟨none,(.x (.st 1 (.t 64) (.t 63))),none,0⟩])))
(.reg [⟨(some 65),(.q (.bin .add (.p .int) (.t 56) (.c (.int .i64 (.ofNat 1))))),none,0⟩,
⟨(some 56),(.q (.mv (.t 65))),none,0⟩])))))))
(.seq (.reg [⟨(some 66),(.q (.mv (.t 11))),none,0⟩,
⟨(some 4),(.q (.mv (.t 66))),none,0⟩])
.ret)))))))⟩
theorem row52 : Row Try.prog (52, a52) := ⟨Try.f52, Try.func52, by kernel_rfl⟩
noncomputable def a56 : AFn :=
⟨23,[(.t 2)],(.seq (.reg [⟨(some 2),(.q (.mv (.c .nilsl))),none,0⟩])
(.seq (.reg [⟨(some 5),(.q (.mv (.t 0))),none,0⟩,
⟨(some 6),(.q (.nilchk (.t 5))),none,0⟩,
⟨(some 7),(.q (.faddr 0 (.t 6))),none,0⟩,
⟨(some 8),(.q (.faddr 1 (.t 7))),none,0⟩,
⟨(some 9),(.q (.ld false 1 (.t 8))),none,0⟩,
⟨(some 10),(.q (.lenSl (.t 9))),none,0⟩,
⟨(some 11),(.a (.mkSlice 3 1 8 [(.int .i64 (.ofNat 0))] (.t 10) (.t 10))),none,0⟩,
⟨(some 3),(.q (.mv (.t 11))),none,0⟩])
(.seq (.seq (.reg [⟨(some 12),(.q (.mv (.t 3))),none,0⟩,
⟨(some 13),(.q (.lenSl (.t 12))),none,0⟩,
⟨(some 14),(.q (.mv (.c (.int .i64 (.ofNat 0))))),none,0⟩])
(.block 0 (.loop (.seq (.reg [⟨(some 15),(.q (.bin .lss (.p .int) (.t 14) (.t 13))),none,0⟩])
(.seq (.cond (.t 15) .skip (.exit 0))
(.seq (.block 1 (.seq (.reg [⟨(some 16),(.q (.mv (.t 14))),none,0⟩,
⟨(some 4),(.q (.mv (.t 16))),none,0⟩])
(.reg [⟨(some 17),(.q (.mv (.t 3))),none,0⟩,
⟨(some 18),(.q (.mv (.t 4))),none,0⟩,
⟨(some 19),(.q (.mv (.t 4))),none,0⟩,
⟨(some 20),(.q (.iaddr (.slice 1) (.t 17) (.t 18))),none,0⟩,
⟨none,(.x (.st 1 (.t 20) (.t 19))),none,0⟩])))
(.reg [⟨(some 21),(.q (.bin .add (.p .int) (.t 14) (.c (.int .i64 (.ofNat 1))))),none,0⟩,
⟨(some 14),(.q (.mv (.t 21))),none,0⟩])))))))
(.seq (.reg [⟨(some 22),(.q (.mv (.t 3))),none,0⟩,
⟨(some 2),(.q (.mv (.t 22))),none,0⟩])
.ret))))⟩
theorem row56 : Row Try.prog (56, a56) := ⟨Try.f56, Try.func56, by kernel_rfl⟩
noncomputable def a57 : AFn :=
⟨31,[(.t 2)],(.seq (.reg [⟨(some 2),(.q (.mv (.c (.str [])))),none,0⟩])
(.seq (.reg [⟨(some 3),(.a (.alloc 112 (repeatL [(.int .u8 (.ofNat 0))] 4000))),none,0⟩])
(.seq (.seq (.reg [⟨(some 6),(.q (.mv (.t 0))),none,0⟩,
⟨(some 7),(.q (.lenSl (.t 6))),none,0⟩,
⟨(some 8),(.q (.mv (.c (.int .i64 (.ofNat 0))))),none,0⟩])
(.block 0 (.loop (.seq (.reg [⟨(some 9),(.q (.bin .lss (.p .int) (.t 8) (.t 7))),none,0⟩])
(.seq (.cond (.t 9) .skip (.exit 0))
(.seq (.block 1 (.seq (.reg [⟨(some 10),(.q (.mv (.t 8))),none,0⟩,
⟨(some 11),(.q (.iaddr (.slice 1) (.t 6) (.t 8))),none,0⟩,
⟨(some 12),(.q (.ld false 1 (.t 11))),none,0⟩,
⟨(some 4),(.q (.mv (.t 10))),none,0⟩,
⟨(some 5),(.q (.mv (.t 12))),none,0⟩])
(.reg [⟨(some 13),(.q (.mv (.t 4))),none,0⟩,
⟨(some 14),(.q (.bin .mul (.p .int) (.c (.int .i64 (.ofNat 2))) (.t 13))),none,0⟩,
⟨(some 15),(.q (.mv (.t 4))),none,0⟩,
⟨(some 16),(.q (.bin .mul (.p .int) (.c (.int .i64 (.ofNat 2))) (.t 15))),none,0⟩,
⟨(some 17),(.q (.bin .add (.p .int) (.t 16) (.c (.int .i64 (.ofNat 1))))),none,0⟩,
⟨(some 18),(.q (.mv (.t 5))),none,0⟩,
⟨(some 19),(.q (.bin .shr (.p .int) (.t 18) (.c (.int .u64 (.ofNat 8))))),none,0⟩,
⟨(some 20),(.q (.conv (.int .u8) (.t 19))),none,0⟩,
⟨(some 21),(.q (.mv (.t 5))),none,0⟩,
⟨(some 22),(.q (.conv (.int .u8) (.t 21))),none,0⟩,
⟨(some 23),(.q (.iaddr (.arr 4000 1) (.t 3) (.t 14))),none,0⟩,
⟨none,(.x (.st 1 (.t 23) (.t 20))),none,0⟩,
⟨(some 24),(.q (.iaddr (.arr 4000 1) (.t 3) (.t 17))),none,0⟩,
⟨none,(.x (.st 1 (.t 24) (.t 22))),none,0⟩])))
(.reg [⟨(some 25),(.q (.bin .add (.p .int) (.t 8) (.c (.int .i64 (.ofNat 1))))),none,0⟩,
⟨(some 8),(.q (.mv (.t 25))),none,0⟩])))))))
(.seq (.reg [⟨(some 26),(.q (.mv (.t 0))),none,0⟩,
⟨(some 27),(.q (.lenSl (.t 26))),none,0⟩,
⟨(some 28),(.q (.bin .mul (.p .int) (.c (.int .i64 (.ofNat 2))) (.t 27))),none,0⟩,
⟨(some 29),(.q (.slc (.arr 4000 1) (.t 3) none (some (.t 28)) none)),none,0⟩,
⟨(some 30),(.q (.conv .bytesToStr (.t 29))),none,0⟩,
⟨(some 2),(.q (.mv (.t 30))),none,0⟩])
.ret))))⟩
theorem row57 : Row Try.prog (57, a57) := ⟨Try.f57, Try.func57, by kernel_rfl⟩
noncomputable def a58 : AFn :=
⟨14,[],(.seq (.reg [⟨(some 5),(.q (.mv (.t 0))),none,0⟩,
⟨(some 6),(.q (.lenSl (.t 5))),none,0⟩,
⟨(some 4),(.q (.mv (.t 6))),none,0⟩])
(.reg [⟨(some 7),(.q (.mv (.t 0))),none,0⟩,
⟨(some 8),(.q (.mv (.t 4))),none,0⟩,
⟨(some 9),(.q (.mv (.t 4))),none,0⟩,
⟨(some 10),(.q (.conv (.int .u64) (.t 9))),none,0⟩,
⟨(some 11),(.x (.call (.c (.fn 78 [] [])) [(.t 10)])),none,0⟩,
⟨(some 12),(.q (.mv (.t 1))),none,0⟩,
⟨(some 13),(.x (.call (.c (.fn 77 [] [])) [(.t 7),(.c (.int .i64 (.ofNat 0))),(.t 8),(.t 11),(.t 12)])),none,0⟩]))⟩
theorem row58 : Row Try.prog (58, a58) := ⟨Try.f58, Try.func58, by kernel_rfl⟩
noncomputable def a59 : AFn :=
⟨36,[(.t 4)],(.seq (.reg [⟨(some 4),(.q (.mv (.c (.int .i64 (.ofNat 0))))),none,0⟩])
(.seq (.seq (.reg [⟨(some 9),(.q (.mv (.t 0))),none,0⟩,
⟨(some 10),(.q (.lenSl (.t 9))),none,0⟩,
⟨(some 11),(.q (.mv (.c (.int .i64 (.ofNat 0))))),none,0⟩])
(.block 0 (.loop (.seq (.reg [⟨(some 12),(.q (.bin .lss (.p .int) (.t 11) (.t 10))),none,0⟩])
(.seq (.cond (.t 12) .skip (.exit 0))
(.seq (.block 1 (.seq (.reg [⟨(some 13),(.q (.mv (.t 11))),none,0⟩,
⟨(some 14),(.q (.iaddr (.slice 1) (.t 9) (.t 11))),none,0⟩,
⟨(some 15),(.q (.ld false 1 (.t 14))),none,0⟩,
⟨(some 5),(.q (.mv (.t 13))),none,0⟩,
⟨(some 6),(.q (.mv (.t 15))),none,0⟩])
(.seq (.seq (.reg [⟨(some 16),(.q (.mv (.t 5))),none,0⟩,
⟨(some 17),(.q (.mv (.t 1))),none,0⟩,
⟨(some 18),(.q (.lenSl (.t 17))),none,0⟩,
⟨(some 19),(.q (.bin .geq (.p .int) (.t 16) (.t 18))),none,0⟩])
(.cond (.t 19) (.seq (.reg [⟨(some 4),(.q (.mv (.c (.int .i64 (.ofNat 1))))),none,0⟩])
.ret) .skip))
(.seq (.reg [⟨(some 20),(.q (.mv (.t 1))),none,0⟩,
⟨(some 21),(.q (.mv (.t 5))),none,0⟩,
⟨(some 22),(.q (.iaddr (.slice 1) (.t 20) (.t 21))),none,0⟩,
⟨(some 23),(.q (.ld false 1 (.t 22))),none,0⟩,
⟨(some 7),(.q (.mv (.t 23))),none,0⟩])
(.seq (.reg [⟨(some 24),(.q (.mv (.t 6))),none,0⟩,
⟨(some 25),(.q (.mv (.t 7))),none,0⟩,
⟨(some 26),(.x (.call (.c (.fn 79 [] [])) [(.t 24),(.t 25)])),none,0⟩,
⟨(some 8),(.q (.mv (.t 26))),none,0⟩])
(.seq (.reg [⟨(some 27),(.q (.mv (.t 8))),none,0⟩,
⟨(some 28),(.q (.bin .neq (.p .int) (.t 27) (.c (.int .i64 (.ofNat 0))))),none,0⟩])
(.cond (.t 28) (.seq (.reg [⟨(some 29),(.q (.mv (.t 8))),none,0⟩,
⟨(some 4),(.q (.mv (.t 29))),none,0⟩])
.ret) .skip)))))))
(.reg [⟨(some 30),(.q (.bin .add (.p .int) (.t 11) (.c (.int .i64 (.ofNat 1))))),none,0⟩,
⟨(some 11),(.q (.mv (.t 30))),none,0⟩])))))))
(.seq (.seq (.reg [⟨(some 31),(.q (.mv (.t 0))),none,0⟩,
⟨(some 32),(.q (.lenSl (.t 31))),none,0⟩,
⟨(some 33),(.q (.mv (.t 1))),none,0⟩,
⟨(some 34),(.q (.lenSl (.t 33))),none,0⟩,
⟨(some 35),(.q (.bin .lss (.p .int) (.t 32) (.t 34))),none,0⟩])
(.cond (.t 35) (.seq (.reg [⟨(some 4),(.q (.mv (.c (.int .i64 (.negSucc 0))))),none,0⟩])
.ret) .skip))
(.seq (.reg [⟨(some 4),(.q (.mv (.c (.int .i64 (.ofNat 0))))),none,0⟩])
.ret))))⟩
theorem row59 : Row Try.prog (59, a59) := ⟨Try.f59, Try.func59, by kernel_rfl⟩
noncomputable def a60 : AFn :=
⟨8,[(.cell 4 true 6)],(.seq (.reg [⟨(some 4),(.a (.alloc 74 [(.int .i64 (.ofNat 0)),(.int .i64 (.ofNat 0)),(.int .i64 (.ofNat 0)),.nilsl,.nilsl,.nilsl])),none,0⟩])
(.seq (.reg [⟨(some 5),(.q (.mv (.t 0))),none,0⟩,
⟨(some 6),(.q (.mv (.t 1))),none,0⟩,
⟨(some 7),(.q (.build [(.int .i64 (.ofNat 0)),(.int .i64 (.ofNat 0)),(.int .i64 (.ofNat 0)),.nilsl,.nilsl,.nilsl] [(0,1,(.c (.int .i64 (.ofNat 1)))),(4,1,(.t 5)),(3,1,(.t 6))])),none,0⟩,
⟨none,(.x (.st 6 (.t 4) (.t 7))),none,0⟩])
.ret))⟩
theorem row60 : Row Try.prog (60, a60) := ⟨Try.f60, Try.func60, by kernel_rfl⟩
noncomputable def a61 : AFn :=
⟨6,[(.cell 2 true 6)],(.seq (.reg [⟨(some 2),(.a (.alloc 74 [(.int .i64 (.ofNat 0)),(.int .i64 (.ofNat 0)),(.int .i64 (.ofNat 0)),.nilsl,.nilsl,.nilsl])),none,0⟩])
(.seq (.reg [⟨(some 3),(.q (.mv (.t 0))),none,0⟩,
⟨(some 4),(.a (.bslice 3 1 1 [(.int .i64 (.ofNat 0))] [(0,(.t 3))])),none,0⟩,
⟨(some 5),(.q (.build [(.int .i64 (.ofNat 0)),(.int .i64 (.ofNat 0)),(.int .i64 (.ofNat 0)),.nilsl,.nilsl,.nilsl] [(0,1,(.c (.int .i64 (.ofNat 3)))),(5,1,(.t 4))])),none,0⟩,
⟨none,(.x (.st 6 (.t 2) (.t 5))),none,0⟩])
.ret))⟩
theorem row61 : Row Try.prog (61, a61) := ⟨Try.f61, Try.func61, by kernel_rfl⟩
noncomputable def a64 : AFn :=
⟨8,[(.t 2),(.t 3)],(.seq (.reg [⟨(some 1),(.a (.box 28 (.t 0))),none,0⟩,
⟨(some 2),(.q (.mv (.c .nilsl))),none,0⟩,
⟨(some 3),(.q (.mv (.c (.int .i64 (.ofNat 0))))),none,0⟩])
(.seq (.reg [⟨(some 4),(.q (.ld true 3 (.t 1))),none,0⟩,
⟨(some 5),(.x (.call (.c (.fn 81 [] [])) [(.t 4),(.c (.fn 82 [] []))])),none,0⟩,
⟨(some 6),(.q (.extract (.t 5) 0)),none,0⟩,
⟨(some 7),(.q (.extract (.t 5) 1)),none,0⟩,
⟨(some 2),(.q (.mv (.t 6))),none,0⟩,
⟨(some 3),(.q (.mv (.t 7))),none,0⟩])
.ret))⟩
theorem row64 : Row Try.prog (64, a64) := ⟨Try.f64, Try.func64, by kernel_rfl⟩
noncomputable def a69 : AFn :=
⟨14,[(.t 6)],(.seq (.reg [⟨(some 6),(.q (.mv (.c (.bool false)))),none,0⟩])
(.seq (.reg [⟨(some 7),(.q (.mv (.t 0))),none,0⟩,
⟨(some 8),(.q (.ld false 1 (.t 2))),none,0⟩,
⟨(some 9),(.q (.bin .sub (.p .int) (.t 7) (.t 8))),none,0⟩,
⟨(some 10),(.q (.mv (.t 1))),none,0⟩,
⟨(some 11),(.q (.ld false 1 (.t 3))),none,0⟩,
⟨(some 12),(.q (.bin .sub (.p .int) (.t 10) (.t 11))),none,0⟩,
⟨(some 13),(.q (.bin .eql (.p .int) (.t 9) (.t 12))),none,0⟩,
⟨(some 6),(.q (.mv (.t 13))),none,0⟩])
.ret))⟩
theorem row69 : Row Try.prog (69, a69) := ⟨Try.f69, Try.func69, by kernel_rfl⟩
noncomputable def a70 : AFn :=
⟨26,[(.t 4)],(.seq (.reg [⟨(some 4),(.q (.mv (.c (.bool false)))),none,0⟩])
(.seq (.seq (.reg [⟨(some 6),(.q (.mv (.t 0))),none,0⟩,
⟨(some 7),(.q (.lenSl (.t 6))),none,0⟩,
⟨(some 8),(.q (.mv (.t 1))),none,0⟩,
⟨(some 9),(.q (.lenSl (.t 8))),none,0⟩,
⟨(some 10),(.q (.bin .neq (.p .int) (.t 7) (.t 9))),none,0⟩])
(.cond (.t 10) (.seq (.reg [⟨(some 4),(.q (.mv (.c (.bool false)))),none,0⟩])
.ret) .skip))
(.seq (.seq (.reg [⟨(some 11),(.q (.mv (.t 0))),none,0⟩,
⟨(some 12),(.q (.lenSl (.t 11))),none,0⟩,
⟨(some 13),(.q (.mv (.c (.int .i64 (.ofNat 0))))),none,0⟩])
(.block 0 (.loop (.seq (.reg [⟨(some 14),(.q (.bin .lss (.p .int) (.t 13) (.t 12))),none,0⟩])
(.seq (.cond (.t 14) .skip (.exit 0))
(.seq (.block 1 (.seq (.reg [⟨(some 15),(.q (.mv (.t 13))),none,0⟩,
⟨(some 5),(.q (.mv (.t 15))),none,0⟩])
(.seq (.drw [⟨(some 16),(.q (.mv (.t 0))),none,0⟩,
⟨(some 17),(.q (.mv (.t 5))),none,0⟩,
⟨(some 18),(.q (.iaddr (.slice 1) (.t 16) (.t 17))),none,3⟩,
⟨(some 19),(.q (.ld false 1 (.t 18))),none,7⟩,
⟨(some 20),(.q (.mv (.t 1))),none,0⟩,
⟨(some 21),(.q (.mv (.t 5))),none,0⟩,
⟨(some 22),(.q (.iaddr (.slice 1) (.t 20) (.t 21))),none,48⟩,
⟨(some 23),(.q (.ld false 1 (.t 22))),none,112⟩,
⟨(some 24),(.q (.bin .neq (.p .int) (.t 19) (.t 23))),none,255⟩])
(.cond (.t 24) (.seq (.reg [⟨(some 4),(.q (.mv (.c (.bool false)))),none,0⟩])
.ret) .skip))))
(.reg [⟨(some 25),(.q (.bin .add (.p .int) (.t 13) (.c (.int .i64 (.ofNat 1))))),none,0⟩,
⟨(some 13),(.q (.mv (.t 25))),none,0⟩])))))))
(.seq (.reg [⟨(some 4),(.q (.mv (.c (.bool true)))),none,0⟩])
.ret))))⟩
theorem row70 : Row Try.prog (70, a70) := ⟨Try.f70, Try.func70, by kernel_rfl⟩
noncomputable def a71 : AFn :=
⟨32,[(.t 6)],(.seq (.reg [⟨(some 6),(.q (.mv (.c (.bool false)))),none,0⟩])
(.seq (.seq (.reg [⟨(some 10),(.q (.mv (.t 0))),none,0⟩,
⟨(some 11),(.q (.lenSl (.t 10))),none,0⟩,
⟨(some 12),(.q (.mv (.t 1))),none,0⟩,
⟨(some 13),(.q (.lenSl (.t 12))),none,0⟩,
⟨(some 14),(.q (.bin .neq (.p .int) (.t 11) (.t 13))),none,0⟩])
(.cond (.t 14) (.seq (.reg [⟨(some 6),(.q (.mv (.c (.bool false)))),none,0⟩])
.ret) .skip))
(.seq (.seq (.reg [⟨(some 15),(.q (.mv (.t 0))),none,0⟩,
⟨(some 16),(.q (.lenSl (.t 15))),none,0⟩,
⟨(some 17),(.q (.mv (.c (.int .i64 (.ofNat 0))))),none,0⟩])
(.block 0 (.loop (.seq (.reg [⟨(some 18),(.q (.bin .lss (.p .int) (.t 17) (.t 16))),none,0⟩])
(.seq (.cond (.t 18) .skip (.exit 0))
(.seq (.block 1 (.seq (.reg [⟨(some 19),(.q (.mv (.t 17))),none,0⟩,
⟨(some 20),(.q (.iaddr (.slice 1) (.t 15) (.t 17))),none,0⟩,
⟨(some 21),(.q (.ld false 1 (.t 20))),none,0⟩,
⟨(some 7),(.q (.mv (.t 19))),none,0⟩,
⟨(some 8),(.q (.mv (.t 21))),none,0⟩])
(.seq (.reg [⟨(some 22),(.q (.mv (.t 1))),none,0⟩,
⟨(some 23),(.q (.mv (.t 7))),none,0⟩,
⟨(some 24),(.q (.iaddr (.slice 1) (.t 22) (.t 23))),none,0⟩,
⟨(some 25),(.q (.ld false 1 (.t 24))),none,0⟩,
⟨(some 9),(.q (.mv (.t 25))),none,0⟩])
(.seq (.reg [⟨(some 26),(.q (.mv (.t 2))),none,0⟩,
⟨(some 27),(.q (.mv (.t 8))),none,0⟩,
⟨(some 28),(.q (.mv (.t 9))),none,0⟩,
⟨(some 29),(.x (.call (.t 26) [(.t 27),(.t 28)])),none,0⟩,
⟨(some 30),(.q (.un .not (.t 29))),none,0⟩])
(.cond (.t 30) (.seq (.reg [⟨(some 6),(.q (.mv (.c (.bool false)))),none,0⟩])
.ret) .skip)))))
(.reg [⟨(some 31),(.q (.bin .add (.p .int) (.t 17) (.c (.int .i64 (.ofNat 1))))),none,0⟩,
⟨(some 17),(.q (.mv (.t 31))),none,0⟩])))))))
(.seq (.reg [⟨(some 6),(.q (.mv (.c (.bool true)))),none,0⟩])
.ret))))⟩
theorem row71 : Row Try.prog (71, a71) := ⟨Try.f71, Try.func71, by kernel_rfl⟩
noncomputable def a72 : AFn :=
⟨17,[(.t 2)],(.seq (.reg [⟨(some 2),(.q (.mv (.c .nilsl))),none,0⟩])
(.seq (.reg [⟨(some 5),(.q (.mv (.t 0))),none,0⟩,
⟨(some 6),(.a (.mkSlice 3 1 8 [(.int .i64 (.ofNat 0))] (.t 5) (.t 5))),none,0⟩,
⟨(some 3),(.q (.mv (.t 6))),none,0⟩])
(.seq (.seq (.reg [⟨(some 7),(.q (.mv (.t 3))),none,0⟩,
⟨(some 8),(.q (.lenSl (.t 7))),none,0⟩,
⟨(some 9),(.q (.mv (.c (.int .i64 (.ofNat 0))))),none,0⟩])
(.block 0 (.loop (.seq (.reg [⟨(some 10),(.q (.bin .lss (.p .int) (.t 9) (.t 8))),none,0⟩])
(.seq (.cond (.t 10) .skip (.exit 0))
(.seq (.block 1 (.seq (.reg [⟨(some 11),(.q (.mv (.t 9))),none,0⟩,
⟨(some 4),(.q (.mv (.t 11))),none,0⟩])
(.reg [⟨(some 12),(.q (.mv (.t 3))),none,0⟩,
⟨(some 13),(.q (.mv (.t 4))),none,0⟩,
⟨(some 14),(.q (.iaddr (.slice 1) (.t 12) (.t 13))),none,0⟩,
⟨none,(.x (.st 1 (.t 14) (.c (.int .i64 (.negSucc 0))))),none,0⟩])))
(.reg [⟨(some 15),(.q (.bin .add (.p .int) (.t 9) (.c (.int .i64 (.ofNat 1))))),none,0⟩,
⟨(some 9),(.q (.mv (.t 15))),none,0⟩])))))))
(.seq (.reg [⟨(some 16),(.q (.mv (.t 3))),none,0⟩,
⟨(some 2),(.q (.mv (.t 16))),none,0⟩])
.ret))))⟩
theorem row72 : Row Try.prog (72, a72) := ⟨Try.f72, Try.func72, by kernel_rfl⟩
noncomputable def a73 : AFn :=
⟨155,[(.t 9)],(.seq (.reg [⟨(some 9),(.q (.mv (.c (.bool false)))),none,0⟩])
(.seq (.drw [⟨(some 16),(.q (.ld false 1 (.t 2))),none,0⟩,
⟨(some 17),(.q (.nilchk (.t 16))),none,1⟩,
⟨(some 18),(.q (.faddr 0 (.t 17))),none,3⟩,
⟨(some 19),(.q (.faddr 1 (.t 18))),none,7⟩,
⟨(some 20),(.q (.ld false 1 (.t 19))),none,15⟩,
⟨(some 21),(.q (.mv (.t 0))),none,0⟩,
⟨(some 22),(.q (.iaddr (.slice 6) (.t 20) (.t 21))),none,63⟩,
⟨(some 23),(.q (.ld true 6 (.t 22))),none,127⟩,
⟨(some 24),(.q (.ld false 1 (.t 2))),none,0⟩,
⟨(some 25),(.q (.nilchk (.t 24))),none,256⟩,
⟨(some 26),(.q (.faddr 0 (.t 25))),none,768⟩,
⟨(some 27),(.q (.faddr 1 (.t 26))),none,1792⟩,
⟨(some 28),(.q (.ld false 1 (.t 27))),none,3840⟩,
⟨(some 29),(.q (.mv (.t 1))),none,0⟩,
⟨(some 30),(.q (.iaddr (.slice 6) (.t 28) (.t 29))),none,16128⟩,
⟨(some 31),(.q (.ld true 6 (.t 30))),none,32512⟩,
⟨(some 10),(.a (.alloc 74 [(.int .i64 (.ofNat 0)),(.int .i64 (.ofNat 0)),(.int .i64 (.ofNat 0)),.nilsl,.nilsl,.nilsl])),none,0⟩,
⟨(some 11),(.a (.alloc 74 [(.int .i64 (.ofNat 0)),(.int .i64 (.ofNat 0)),(.int .i64 (.ofNat 0)),.nilsl,.nilsl,.nilsl])),none,0⟩,
⟨none,(.x (.st 6 (.t 10) (.t 23))),none,196863⟩,
⟨none,(.x (.st 6 (.t 11) (.t 31))),none,524287⟩])
(.seq (.seq (.reg [⟨(some 32),(.q (.faddr 0 (.t 10))),none,0⟩,
⟨(some 33),(.q (.ld false 1 (.t 32))),none,0⟩,
⟨(some 34),(.q (.faddr 0 (.t 11))),none,0⟩,
⟨(some 35),(.q (.ld false 1 (.t 34))),none,0⟩,
⟨(some 36),(.q (.bin .neq (.p .int) (.t 33) (.t 35))),none,0⟩,
⟨(some 37),(.q (.mv (.t 36))),none,0⟩,
⟨(some 38),(.q (.faddr 1 (.t 10))),(some (37,false)),0⟩,
⟨(some 39),(.q (.ld false 1 (.t 38))),(some (37,false)),0⟩,
⟨(some 40),(.q (.faddr 1 (.t 11))),(some (37,false)),0⟩,
⟨(some 41),(.q (.ld false 1 (.t 40))),(some (37,false)),0⟩,
⟨(some 42),(.q (.bin .neq (.p .int) (.t 39) (.t 41))),(some (37,false)),0⟩,
⟨(some 43),(.q (.pick (.t 37) (.c (.bool true)) (.t 42))),none,0⟩,
⟨(some 44),(.q (.mv (.t 43))),none,0⟩,
⟨(some 45),(.q (.faddr 3 (.t 10))),(some (44,false)),0⟩,
⟨(some 46),(.q (.ld false 1 (.t 45))),(some (44,false)),0⟩,
⟨(some 47),(.q (.lenSl (.t 46))),(some (44,false)),0⟩,
⟨(some 48),(.q (.faddr 3 (.t 11))),(some (44,false)),0⟩,
⟨(some 49),(.q (.ld false 1 (.t 48))),(some (44,false)),0⟩,
⟨(some 50),(.q (.lenSl (.t 49))),(some (44,false)),0⟩,
⟨(some 51),(.q (.bin .neq (.p .int) (.t 47) (.t 50))),(some (44,false)),0⟩,
⟨(some 52),(.q (.pick (.t 44) (.c (.bool true)) (.t 51))),none,0⟩,
⟨(some 53),(.q (.mv (.t 52))),none,0⟩,
⟨(some 54),(.q (.faddr 5 (.t 10))),(some (53,false)),0⟩,
⟨(some 55),(.q (.ld false 1 (.t 54))),(some (53,false)),0⟩,
⟨(some 56),(.q (.faddr 5 (.t 11))),(some (53,false)),0⟩,
⟨(some 57),(.q (.ld false 1 (.t 56))),(some (53,false)),0⟩,
⟨(some 58),(.x (.call (.c (.fn 70 [] [])) [(.t 55),(.t 57)])),(some (53,false)),0⟩,
⟨(some 59),(.q (.un .not (.t 58))),(some (53,false)),0⟩,
⟨(some 60),(.q (.pick (.t 53) (.c (.bool true)) (.t 59))),none,0⟩])
(.cond (.t 60) (.seq (.reg [⟨(some 9),(.q (.mv (.c (.bool false)))),none,0⟩])
.ret) .skip))
(.seq (.reg [⟨(some 61),(.q (.faddr 0 (.t 10))),none,0⟩,
⟨(some 62),(.q (.ld false 1 (.t 61))),none,0⟩,
⟨(some 63),(.q (.bin .eql (.p .int) (.t 62) (.c (.int .i64 (.ofNat 2))))),none,0⟩,
⟨(some 12),(.q (.mv (.t 63))),none,0⟩])
(.seq (.seq (.reg [⟨(some 64),(.q (.mv (.t 12))),none,0⟩,
⟨(some 65),(.q (.mv (.t 64))),none,0⟩,
⟨(some 66),(.q (.faddr 0 (.t 3))),(some (65,true)),0⟩,
⟨(some 67),(.q (.ld false 1 (.t 66))),(some (65,true)),0⟩,
⟨(some 68),(.q (.faddr 2 (.t 10))),(some (65,true)),0⟩,
⟨(some 69),(.q (.ld false 1 (.t 68))),(some (65,true)),0⟩,
⟨(some 70),(.q (.faddr 2 (.t 11))),(some (65,true)),0⟩,
⟨(some 71),(.q (.ld false 1 (.t 70))),(some (65,true)),0⟩,
⟨(some 72),(.x (.call (.c (.fn 74 [] [])) [(.t 67),(.t 69),(.t 71)])),(some (65,true)),0⟩,
⟨(some 73),(.q (.un .not (.t 72))),(some (65,true)),0⟩,
⟨(some 74),(.q (.pick (.t 65) (.t 73) (.c (.bool false)))),none,0⟩,
⟨(some 75),(.q (.mv (.t 74))),none,0⟩,
⟨(some 76),(.q (.mv (.t 12))),(some (75,false)),0⟩,
⟨(some 77),(.q (.mv (.t 76))),(some (75,false)),0⟩,
⟨(some 78),(.q (.ld false 1 (.t 4))),(some (77,true)),0⟩,
⟨(some 79),(.q (.faddr 2 (.t 11))),(some (77,true)),0⟩,
⟨(some 80),(.q (.ld false 1 (.t 79))),(some (77,true)),0⟩,
⟨(some 81),(.q (.faddr 2 (.t 10))),(some (77,true)),0⟩,
⟨(some 82),(.q (.ld false 1 (.t 81))),(some (77,true)),0⟩,
⟨(some 83),(.x (.call (.c (.fn 74 [] [])) [(.t 78),(.t 80),(.t 82)])),(some (77,true)),0⟩,
⟨(some 84),(.q (.un .not (.t 83))),(some (77,true)),0⟩,
⟨(some 85),(.q (.pick (.t 77) (.t 84) (.c (.bool false)))),(some (75,false)),0⟩,
⟨(some 86),(.q (.pick (.t 75) (.c (.bool true)) (.t 85))),none,0⟩])
(.cond (.t 86) (.seq (.reg [⟨(some 9),(.q (.mv (.c (.bool false)))),none,0⟩])
.ret) .skip))
(.seq (.seq (.reg [⟨(some 87),(.q (.faddr 3 (.t 10))),none,0⟩,
⟨(some 88),(.q (.ld false 1 (.t 87))),none,0⟩,
⟨(some 89),(.q (.lenSl (.t 88))),none,0⟩,
⟨(some 90),(.q (.mv (.c (.int .i64 (.ofNat 0))))),none,0⟩])
(.block 0 (.loop (.seq (.reg [⟨(some 91),(.q (.bin .lss (.p .int) (.t 90) (.t 89))),none,0⟩])
(.seq (.cond (.t 91) .skip (.exit 0))
(.seq (.block 1 (.seq (.reg [⟨(some 92),(.q (.mv (.t 90))),none,0⟩,
⟨(some 93),(.q (.iaddr (.slice 1) (.t 88) (.t 90))),none,0⟩,
⟨(some 94),(.q (.ld false 1 (.t 93))),none,0⟩,
⟨(some 13),(.q (.mv (.t 92))),none,0⟩,
⟨(some 14),(.q (.mv (.t 94))),none,0⟩])
(.seq (.reg [⟨(some 95),(.q (.ld false 1 (.t 5))),none,0⟩,
⟨(some 96),(.q (.mv (.t 14))),none,0⟩,
⟨(some 97),(.q (.iaddr (.slice 1) (.t 95) (.t 96))),none,0⟩,
⟨(some 98),(.q (.ld false 1 (.t 97))),none,0⟩,
⟨(some 15),(.q (.mv (.t 98))),none,0⟩])
(.seq (.seq (.reg [⟨(some 99),(.q (.ld false 1 (.t 2))),none,0⟩,
⟨(some 100),(.q (.nilchk (.t 99))),none,0⟩,
⟨(some 101),(.q (.faddr 3 (.t 100))),none,0⟩,
⟨(some 102),(.q (.ld false 1 (.t 101))),none,0⟩,
⟨(some 103),(.q (.mv (.t 15))),none,0⟩,
⟨(some 104),(.q (.iaddr (.slice 1) (.t 102) (.t 103))),none,0⟩,
⟨(some 105),(.q (.ld false 1 (.t 104))),none,0⟩,
⟨(some 106),(.q (.mv (.t 1))),none,0⟩,
⟨(some 107),(.q (.bin .neq (.p .int) (.t 105) (.t 106))),none,0⟩])
(.cond (.t 107) (.seq (.reg [⟨(some 9),(.q (.mv (.c (.bool false)))),none,0⟩])
.ret) .skip))
(.seq (.seq (.drw [⟨(some 108),(.q (.faddr 0 (.t 10))),none,0⟩,
⟨(some 109),(.q (.ld false 1 (.t 108))),none,1⟩,
⟨(some 110),(.q (.bin .eql (.p .int) (.t 109) (.c (.int .i64 (.ofNat 1))))),none,3⟩,
⟨(some 111),(.q (.mv (.t 110))),none,7⟩,
⟨(some 112),(.q (.faddr 4 (.t 10))),(some (111,true)),15⟩,
⟨(some 113),(.q (.ld false 1 (.t 112))),(some (111,true)),31⟩,
⟨(some 114),(.q (.mv (.t 13))),(some (111,true)),15⟩,
⟨(some 115),(.q (.iaddr (.slice 1) (.t 113) (.t 114))),(some (111,true)),127⟩,
⟨(some 116),(.q (.ld false 1 (.t 115))),(some (111,true)),255⟩,
⟨(some 117),(.q (.faddr 4 (.t 11))),(some (111,true)),15⟩,
⟨(some 118),(.q (.ld false 1 (.t 117))),(some (111,true)),527⟩,
⟨(some 119),(.q (.ld false 1 (.t 2))),(some (111,true)),15⟩,
⟨(some 120),(.q (.nilchk (.t 119))),(some (111,true)),2063⟩,
⟨(some 121),(.q (.faddr 4 (.t 120))),(some (111,true)),6159⟩,
⟨(some 122),(.q (.ld false 1 (.t 121))),(some (111,true)),14351⟩,
⟨(some 123),(.q (.mv (.t 15))),(some (111,true)),15⟩,
⟨(some 124),(.q (.iaddr (.slice 1) (.t 122) (.t 123))),(some (111,true)),63503⟩,
⟨(some 125),(.q (.ld false 1 (.t 124))),(some (111,true)),129039⟩,
⟨(some 126),(.q (.iaddr (.slice 1) (.t 118) (.t 125))),(some (111,true)),261647⟩,
⟨(some 127),(.q (.ld false 1 (.t 126))),(some (111,true)),523791⟩,
⟨(some 128),(.q (.bin .neq (.p .int) (.t 116) (.t 127))),(some (111,true)),1048575⟩,
⟨(some 129),(.q (.pick (.t 111) (.t 128) (.c (.bool false)))),none,2097151⟩])
(.cond (.t 129) (.seq (.reg [⟨(some 9),(.q (.mv (.c (.bool false)))),none,0⟩])
.ret) .skip))
(.seq (.seq (.drw [⟨(some 130),(.q (.mv (.t 12))),none,0⟩,
⟨(some 131),(.q (.mv (.t 130))),none,1⟩,
⟨(some 132),(.q (.faddr 1 (.t 3))),(some (131,true)),3⟩,
⟨(some 133),(.q (.ld false 1 (.t 132))),(some (131,true)),7⟩,
⟨(some 134),(.q (.faddr 2 (.t 10))),(some (131,true)),3⟩,
⟨(some 135),(.q (.ld false 1 (.t 134))),(some (131,true)),19⟩,
⟨(some 136),(.q (.iaddr (.slice 1) (.t 133) (.t 135))),(some (131,true)),63⟩,
⟨(some 137),(.q (.ld false 1 (.t 136))),(some (131,true)),127⟩,
⟨(some 138),(.q (.mv (.t 13))),(some (131,true)),3⟩,
⟨(some 139),(.q (.ld false 1 (.t 2))),(some (131,true)),3⟩,
⟨(some 140),(.q (.nilchk (.t 139))),(some (131,true)),515⟩,
⟨(some 141),(.q (.faddr 4 (.t 140))),(some (131,true)),1539⟩,
⟨(some 142),(.q (.ld false 1 (.t 141))),(some (131,true)),3587⟩,
⟨(some 143),(.q (.mv (.t 15))),(some (131,true)),3⟩,
⟨(some 144),(.q (.iaddr (.slice 1) (.t 142) (.t 143))),(some (131,true)),15875⟩,
⟨(some 145),(.q (.ld false 1 (.t 144))),(some (131,true)),32259⟩,
⟨(some 146),(.x (.call (.c (.fn 74 [] [])) [(.t 137),(.t 138),(.t 145)])),(some (131,true)),65535⟩,
⟨(some 147),(.q (.un .not (.t 146))),(some (131,true)),131071⟩,
⟨(some 148),(.q (.pick (.t 131) (.t 147) (.c (.bool false)))),none,262143⟩])
(.cond (.t 148) (.seq (.reg [⟨(some 9),(.q (.mv (.c (.bool false)))),none,0⟩])
.ret) .skip))
(.seq (.reg [⟨(some 149),(.q (.ld false 1 (.t 6))),none,0⟩,
⟨(some 150),(.q (.mv (.t 14))),none,0⟩,
⟨(some 151),(.q (.mv (.t 15))),none,0⟩,
⟨(some 152),(.x (.call (.t 149) [(.t 150),(.t 151)])),none,0⟩,
⟨(some 153),(.q (.un .not (.t 152))),none,0⟩])
(.cond (.t 153) (.seq (.reg [⟨(some 9),(.q (.mv (.c (.bool false)))),none,0⟩])
.ret) .skip))))))))
(.reg [⟨(some 154),(.q (.bin .add (.p .int) (.t 90) (.c (.int .i64 (.ofNat 1))))),none,0⟩,
⟨(some 90),(.q (.mv (.t 154))),none,0⟩])))))))
(.seq (.reg [⟨(some 9),(.q (.mv (.c (.bool true)))),none,0⟩])
.ret)))))))⟩
theorem row73 : Row Try.prog (73, a73) := ⟨Try.f73, Try.func73, by kernel_rfl⟩
noncomputable def a74 : AFn :=
⟨22,[(.t 6)],(.seq (.reg [⟨(some 6),(.q (.mv (.c (.bool false)))),none,0⟩])
(.seq (.seq (.reg [⟨(some 7),(.q (.mv (.t 0))),none,0⟩,
⟨(some 8),(.q (.mv (.t 1))),none,0⟩,
⟨(some 9),(.q (.iaddr (.slice 1) (.t 7) (.t 8))),none,0⟩,
⟨(some 10),(.q (.ld false 1 (.t 9))),none,0⟩,
⟨(some 11),(.q (.bin .lss (.p .int) (.t 10) (.c (.int .i64 (.ofNat 0))))),none,0⟩])
(.cond (.t 11) (.reg [⟨(some 12),(.q (.mv (.t 0))),none,0⟩,
⟨(some 13),(.q (.mv (.t 1))),none,0⟩,
⟨(some 14),(.q (.mv (.t 2))),none,0⟩,
⟨(some 15),(.q (.iaddr (.slice 1) (.t 12) (.t 13))),none,0⟩,
⟨none,(.x (.st 1 (.t 15) (.t 14))),none,0⟩]) .skip))
(.seq (.reg [⟨(some 16),(.q (.mv (.t 0))),none,0⟩,
⟨(some 17),(.q (.mv (.t 1))),none,0⟩,
⟨(some 18),(.q (.iaddr (.slice 1) (.t 16) (.t 17))),none,0⟩,
⟨(some 19),(.q (.ld false 1 (.t 18))),none,0⟩,
⟨(some 20),(.q (.mv (.t 2))),none,0⟩,
⟨(some 21),(.q (.bin .eql (.p .int) (.t 19) (.t 20))),none,0⟩,
⟨(some 6),(.q (.mv (.t 21))),none,0⟩])
.ret)))⟩
theorem row74 : Row Try.prog (74, a74) := ⟨Try.f74, Try.func74, by kernel_rfl⟩
noncomputable def a75 : AFn :=
⟨23,[],(.seq (.reg [⟨(some 6),(.q (.mv (.t 0))),none,0⟩,
⟨(some 7),(.q (.mv (.t 1))),none,0⟩,
⟨(some 8),(.x (.call (.c (.fn 76 [] [])) [(.t 6),(.t 7)])),none,0⟩,
⟨(some 9),(.q (.mv (.t 0))),none,0⟩,
⟨(some 10),(.q (.mv (.t 2))),none,0⟩,
⟨(some 11),(.x (.call (.c (.fn 76 [] [])) [(.t 9),(.t 10)])),none,0⟩,
⟨(some 1),(.q (.mv (.t 8))),none,0⟩,
⟨(some 2),(.q (.mv (.t 11))),none,0⟩])
(.reg [⟨(some 12),(.q (.mv (.t 0))),none,0⟩,
⟨(some 13),(.q (.nilchk (.t 12))),none,0⟩,
⟨(some 14),(.q (.faddr 0 (.t 13))),none,0⟩,
⟨(some 15),(.q (.ld false 1 (.t 14))),none,0⟩,
⟨(some 16),(.q (.mv (.t 1))),none,0⟩,
⟨(some 17),(.q (.mv (.t 2))),none,0⟩,
⟨(some 18),(.q (.minmax true [(.t 16),(.t 17)])),none,0⟩,
⟨(some 19),(.q (.mv (.t 1))),none,0⟩,
⟨(some 20),(.q (.mv (.t 2))),none,0⟩,
⟨(some 21),(.q (.minmax false [(.t 19),(.t 20)])),none,0⟩,
⟨(some 22),(.q (.iaddr (.slice 1) (.t 15) (.t 18))),none,0⟩,
⟨none,(.x (.st 1 (.t 22) (.t 21))),none,0⟩]))⟩
theorem row75 : Row Try.prog (75, a75) := ⟨Try.f75, Try.func75, by kernel_rfl⟩
noncomputable def a76 : AFn :=
⟨41,[(.t 4)],(.seq (.reg [⟨(some 4),(.q (.mv (.c (.int .i64 (.ofNat 0))))),none,0⟩])
(.seq (.block 0 (.loop (.seq (.seq (.reg [⟨(some 5),(.q (.mv (.t 0))),none,0⟩,
⟨(some 6),(.q (.nilchk (.t 5))),none,0⟩,
⟨(some 7),(.q (.faddr 0 (.t 6))),none,0⟩,
⟨(some 8),(.q (.ld false 1 (.t 7))),none,0⟩,
⟨(some 9),(.q (.mv (.t 1))),none,0⟩,
⟨(some 10),(.q (.iaddr (.slice 1) (.t 8) (.t 9))),none,0⟩,
⟨(some 11),(.q (.ld false 1 (.t 10))),none,0⟩,
⟨(some 12),(.q (.mv (.t 1))),none,0⟩,
⟨(some 13),(.q (.bin .neq (.p .int) (.t 11) (.t 12))),none,0⟩])
(.cond (.t 13) .skip (.exit 0)))
(.block 1 (.seq (.drw [⟨(some 14),(.q (.mv (.t 0))),none,0⟩,
⟨(some 15),(.q (.nilchk (.t 14))),none,1⟩,
⟨(some 16),(.q (.faddr 0 (.t 15))),none,3⟩,
⟨(some 17),(.q (.ld false 1 (.t 16))),none,7⟩,
⟨(some 18),(.q (.mv (.t 1))),none,0⟩,
⟨(some 19),(.q (.mv (.t 0))),none,0⟩,
⟨(some 20),(.q (.nilchk (.t 19))),none,32⟩,
⟨(some 21),(.q (.faddr 0 (.t 20))),none,96⟩,
⟨(some 22),(.q (.ld false 1 (.t 21))),none,224⟩,
⟨(some 23),(.q (.mv (.t 0))),none,0⟩,
⟨(some 24),(.q (.nilchk (.t 23))),none,512⟩,
⟨(some 25),(.q (.faddr 0 (.t 24))),none,1536⟩,
⟨(some 26),(.q (.ld false 1 (.t 25))),none,3584⟩,
⟨(some 27),(.q (.mv (.t 1))),none,0⟩,
⟨(some 28),(.q (.iaddr (.slice 1) (.t 26) (.t 27))),none,15872⟩,
⟨(some 29),(.q (.ld false 1 (.t 28))),none,32256⟩,
⟨(some 30),(.q (.iaddr (.slice 1) (.t 22) (.t 29))),none,65504⟩,
⟨(some 31),(.q (.ld false 1 (.t 30))),none,131040⟩,
⟨(some 32),(.q (.iaddr (.slice 1) (.t 17) (.t 18))),none,262143⟩,
⟨none,(.x (.st 1 (.t 32) (.t 31))),none,524287⟩])
(.reg [⟨(some 33),(.q (.mv (.t 0))),none,0⟩,
⟨(some 34),(.q (.nilchk (.t 33))),none,0⟩,
⟨(some 35),(.q (.faddr 0 (.t 34))),none,0⟩,
⟨(some 36),(.q (.ld false 1 (.t 35))),none,0⟩,
⟨(some 37),(.q (.mv (.t 1))),none,0⟩,
⟨(some 38),(.q (.iaddr (.slice 1) (.t 36) (.t 37))),none,0⟩,
⟨(some 39),(.q (.ld false 1 (.t 38))),none,0⟩,
⟨(some 1),(.q (.mv (.t 39))),none,0⟩]))))))
(.seq (.reg [⟨(some 40),(.q (.mv (.t 1))),none,0⟩,
⟨(some 4),(.q (.mv (.t 40))),none,0⟩])
.ret)))⟩
theorem row76 : Row Try.prog (76, a76) := ⟨Try.f76, Try.func76, by kernel_rfl⟩
noncomputable def a77 : AFn :=
⟨148,[],(.seq (.reg [⟨(some 10),(.q (.mv (.c (.bool true)))),none,0⟩])
(.seq (.reg [⟨(some 11),(.q (.mv (.c (.bool true)))),none,0⟩])
(.block 0 (.loop (.block 1 (.seq (.reg [⟨(some 21),(.q (.mv (.t 2))),none,0⟩,
⟨(some 22),(.q (.mv (.t 1))),none,0⟩,
⟨(some 23),(.q (.bin .sub (.p .int) (.t 21) (.t 22))),none,0⟩,
⟨(some 12),(.q (.mv (.t 23))),none,0⟩])
(.seq (.seq (.reg [⟨(some 24),(.q (.mv (.t 12))),none,0⟩,
⟨(some 25),(.q (.bin .leq (.p .int) (.t 24) (.c (.int .i64 (.ofNat 12))))),none,0⟩])
(.cond (.t 25) (.seq (.reg [⟨(some 26),(.q (.mv (.t 0))),none,0⟩,
⟨(some 27),(.q (.mv (.t 1))),none,0⟩,
⟨(some 28),(.q (.mv (.t 2))),none,0⟩,
⟨(some 29),(.q (.mv (.t 4))),none,0⟩,
⟨(some 30),(.x (.call (.c (.fn 83 [] [])) [(.t 26),(.t 27),(.t 28),(.t 29)])),none,0⟩])
.ret) .skip))
(.seq (.seq (.reg [⟨(some 31),(.q (.mv (.t 3))),none,0⟩,
⟨(some 32),(.q (.bin .eql (.p .int) (.t 31) (.c (.int .i64 (.ofNat 0))))),none,0⟩])
(.cond (.t 32) (.seq (.reg [⟨(some 33),(.q (.mv (.t 0))),none,0⟩,
⟨(some 34),(.q (.mv (.t 1))),none,0⟩,
⟨(some 35),(.q (.mv (.t 2))),none,0⟩,
⟨(some 36),(.q (.mv (.t 4))),none,0⟩,
⟨(some 37),(.x (.call (.c (.fn 84 [] [])) [(.t 33),(.t 34),(.t 35),(.t 36)])),none,0⟩])
.ret) .skip))
(.seq (.seq (.reg [⟨(some 38),(.q (.mv (.t 10))),none,0⟩,
⟨(some 39),(.q (.un .not (.t 38))),none,0⟩])
(.cond (.t 39) (.seq (.reg [⟨(some 40),(.q (.mv (.t 0))),none,0⟩,
⟨(some 41),(.q (.mv (.t 1))),none,0⟩,
⟨(some 42),(.q (.mv (.t 2))),none,0⟩,
⟨(some 43),(.q (.mv (.t 4))),none,0⟩,
⟨(some 44),(.x (.call (.c (.fn 85 [] [])) [(.t 40),(.t 41),(.t 42),(.t 43)])),none,0⟩])
(.reg [⟨(some 45),(.q (.mv (.t 3))),none,0⟩,
⟨(some 46),(.q (.bin .sub (.p .int) (.t 45) (.c (.int .i64 (.ofNat 1))))),none,0⟩,
⟨(some 3),(.q (.mv (.t 46))),none,0⟩])) .skip))
(.seq (.reg [⟨(some 48),(.q (.mv (.t 0))),none,0⟩,
⟨(some 49),(.q (.mv (.t 1))),none,0⟩,
⟨(some 50),(.q (.mv (.t 2))),none,0⟩,
⟨(some 51),(.q (.mv (.t 4))),none,0⟩,
⟨(some 52),(.x (.call (.c (.fn 86 [] [])) [(.t 48),(.t 49),(.t 50),(.t 51)])),none,0⟩,
⟨(some 47),(.q (.mv (.t 52))),none,0⟩,
⟨(some 53),(.q (.extract (.t 47) 0)),none,0⟩,
⟨(some 54),(.q (.extract (.t 47) 1)),none,0⟩,
⟨(some 13),(.q (.mv (.t 53))),none,0⟩,
⟨(some 14),(.q (.mv (.t 54))),none,0⟩])
(.seq (.seq (.reg [⟨(some 55),(.q (.mv (.t 14))),none,0⟩,
⟨(some 56),(.q (.bin .eql (.p .int) (.t 55) (.c (.int .i64 (.ofNat 2))))),none,0⟩])
(.cond (.t 56) (.seq (.reg [⟨(some 57),(.q (.mv (.t 0))),none,0⟩,
⟨(some 58),(.q (.mv (.t 1))),none,0⟩,
⟨(some 59),(.q (.mv (.t 2))),none,0⟩,
⟨(some 60),(.q (.mv (.t 4))),none,0⟩,
⟨(some 61),(.x (.call (.c (.fn 87 [] [])) [(.t 57),(.t 58),(.t 59),(.t 60)])),none,0⟩])
(.seq (.reg [⟨(some 62),(.q (.mv (.t 2))),none,0⟩,
⟨(some 63),(.q (.bin .sub (.p .int) (.t 62) (.c (.int .i64 (.ofNat 1))))),none,0⟩,
⟨(some 64),(.q (.mv (.t 13))),none,0⟩,
⟨(some 65),(.q (.mv (.t 1))),none,0⟩,
⟨(some 66),(.q (.bin .sub (.p .int) (.t 64) (.t 65))),none,0⟩,
⟨(some 67),(.q (.bin .sub (.p .int) (.t 63) (.t 66))),none,0⟩,
⟨(some 13),(.q (.mv (.t 67))),none,0⟩])
(.reg [⟨(some 14),(.q (.mv (.c (.int .i64 (.ofNat 1))))),none,0⟩]))) .skip))
(.seq (.seq (.reg [⟨(some 68),(.q (.mv (.t 10))),none,0⟩,
⟨(some 69),(.q (.mv (.t 68))),none,0⟩,
⟨(some 70),(.q (.mv (.t 11))),(some (69,true)),0⟩,
⟨(some 71),(.q (.pick (.t 69) (.t 70) (.c (.bool false)))),none,0⟩,
⟨(some 72),(.q (.mv (.t 71))),none,0⟩,
⟨(some 73),(.q (.mv (.t 14))),(some (72,true)),0⟩,
⟨(some 74),(.q (.bin .eql (.p .int) (.t 73) (.c (.int .i64 (.ofNat 1))))),(some (72,true)),0⟩,
⟨(some 75),(.q (.pick (.t 72) (.t 74) (.c (.bool false)))),none,0⟩])
(.cond (.t 75) (.seq (.reg [⟨(some 76),(.q (.mv (.t 0))),none,0⟩,
⟨(some 77),(.q (.mv (.t 1))),none,0⟩,
⟨(some 78),(.q (.mv (.t 2))),none,0⟩,
⟨(some 79),(.q (.mv (.t 4))),none,0⟩,
⟨(some 80),(.x (.call (.c (.fn 88 [] [])) [(.t 76),(.t 77),(.t 78),(.t 79)])),none,0⟩])
(.cond (.t 80) .ret .skip)) .skip))
(.seq (.seq (.drw [⟨(some 81),(.q (.mv (.t 1))),none,0⟩,
⟨(some 82),(.q (.bin .gtr (.p .int) (.t 81) (.c (.int .i64 (.ofNat 0))))),none,1⟩,
⟨(some 83),(.q (.mv (.t 82))),none,3⟩,
⟨(some 84),(.q (.mv (.t 4))),(some (83,true)),7⟩,
⟨(some 85),(.q (.mv (.t 0))),(some (83,true)),7⟩,
⟨(some 86),(.q (.mv (.t 1))),(some (83,true)),7⟩,
⟨(some 87),(.q (.bin .sub (.p .int) (.t 86) (.c (.int .i64 (.ofNat 1))))),(some (83,true)),39⟩,
⟨(some 88),(.q (.iaddr (.slice 1) (.t 85) (.t 87))),(some (83,true)),119⟩,
⟨(some 89),(.q (.ld false 1 (.t 88))),(some (83,true)),247⟩,
⟨(some 90),(.q (.mv (.t 0))),(some (83,true)),7⟩,
⟨(some 91),(.q (.mv (.t 13))),(some (83,true)),7⟩,
⟨(some 92),(.q (.iaddr (.slice 1) (.t 90) (.t 91))),(some (83,true)),1543⟩,
⟨(some 93),(.q (.ld false 1 (.t 92))),(some (83,true)),3591⟩,
⟨(some 94),(.x (.call (.t 84) [(.t 89),(.t 93)])),(some (83,true)),8191⟩,
⟨(some 95),(.q (.bin .lss (.p .int) (.t 94) (.c (.int .i64 (.ofNat 0))))),(some (83,true)),16383⟩,
⟨(some 96),(.q (.un .not (.t 95))),(some (83,true)),32767⟩,
⟨(some 97),(.q (.pick (.t 83) (.t 96) (.c (.bool false)))),none,65535⟩])
(.cond (.t 97) (.seq (.reg [⟨(some 98),(.q (.mv (.t 0))),none,0⟩,
⟨(some 99),(.q (.mv (.t 1))),none,0⟩,
⟨(some 100),(.q (.mv (.t 2))),none,0⟩,
⟨(some 101),(.q (.mv (.t 13))),none,0⟩,
⟨(some 102),(.q (.mv (.t 4))),none,0⟩,
⟨(some 103),(.x (.call (.c (.fn 89 [] [])) [(.t 98),(.t 99),(.t 100),(.t 101),(.t 102)])),none,0⟩,
⟨(some 15),(.q (.mv (.t 103))),none,0⟩])
(.seq (.reg [⟨(some 104),(.q (.mv (.t 15))),none,0⟩,
⟨(some 1),(.q (.mv (.t 104))),none,0⟩])
(.exit 1))) .skip))
(.seq (.reg [⟨(some 106),(.q (.mv (.t 0))),none,0⟩,
⟨(some 107),(.q (.mv (.t 1))),none,0⟩,
⟨(some 108),(.q (.mv (.t 2))),none,0⟩,
⟨(some 109),(.q (.mv (.t 13))),none,0⟩,
⟨(some 110),(.q (.mv (.t 4))),none,0⟩,
⟨(some 111),(.x (.call (.c (.fn 90 [] [])) [(.t 106),(.t 107),(.t 108),(.t 109),(.t 110)])),none,0⟩,
⟨(some 105),(.q (.mv (.t 111))),none,0⟩,
⟨(some 112),(.q (.extract (.t 105) 0)),none,0⟩,
⟨(some 113),(.q (.extract (.t 105) 1)),none,0⟩,
⟨(some 16),(.q (.mv (.t 112))),none,0⟩,
⟨(some 17),(.q (.mv (.t 113))),none,0⟩])
(.seq (.reg [⟨(some 114),(.q (.mv (.t 17))),none,0⟩,
⟨(some 11),(.q (.mv (.t 114))),none,0⟩])
(.seq (.reg [⟨(some 115),(.q (.mv (.t 16))),none,0⟩,
⟨(some 116),(.q (.mv (.t 1))),none,0⟩,
⟨(some 117),(.q (.bin .sub (.p .int) (.t 115) (.t 116))),none,0⟩,
⟨(some 118),(.q (.mv (.t 2))),none,0⟩,
⟨(some 119),(.q (.mv (.t 16))),none,0⟩,
⟨(some 120),(.q (.bin .sub (.p .int) (.t 118) (.t 119))),none,0⟩,
⟨(some 18),(.q (.mv (.t 117))),none,0⟩,
⟨(some 19),(.q (.mv (.t 120))),none,0⟩])
(.seq (.reg [⟨(some 121),(.q (.mv (.t 12))),none,0⟩,
⟨(some 122),(.q (.bin .quo (.p .int) (.t 121) (.c (.int .i64 (.ofNat 8))))),none,0⟩,
⟨(some 20),(.q (.mv (.t 122))),none,0⟩])
(.seq (.reg [⟨(some 123),(.q (.mv (.t 18))),none,0⟩,
⟨(some 124),(.q (.mv (.t 19))),none,0⟩,
⟨(some 125),(.q (.bin .lss (.p .int) (.t 123) (.t 124))),none,0⟩])
(.cond (.t 125) (.seq (.reg [⟨(some 126),(.q (.mv (.t 18))),none,0⟩,
⟨(some 127),(.q (.mv (.t 20))),none,0⟩,
⟨(some 128),(.q (.bin .geq (.p .int) (.t 126) (.t 127))),none,0⟩,
⟨(some 10),(.q (.mv (.t 128))),none,0⟩])
(.seq (.reg [⟨(some 129),(.q (.mv (.t 0))),none,0⟩,
⟨(some 130),(.q (.mv (.t 1))),none,0⟩,
⟨(some 131),(.q (.mv (.t 16))),none,0⟩,
⟨(some 132),(.q (.mv (.t 3))),none,0⟩,
⟨(some 133),(.q (.mv (.t 4))),none,0⟩,
⟨(some 134),(.x (.call (.c (.fn 77 [] [])) [(.t 129),(.t 130),(.t 131),(.t 132),(.t 133)])),none,0⟩])
(.reg [⟨(some 135),(.q (.mv (.t 16))),none,0⟩,
⟨(some 136),(.q (.bin .add (.p .int) (.t 135) (.c (.int .i64 (.ofNat 1))))),none,0⟩,
⟨(some 1),(.q (.mv (.t 136))),none,0⟩]))) (.seq (.reg [⟨(some 137),(.q (.mv (.t 19))),none,0⟩,
⟨(some 138),(.q (.mv (.t 20))),none,0⟩,
⟨(some 139),(.q (.bin .geq (.p .int) (.t 137) (.t 138))),none,0⟩,
⟨(some 10),(.q (.mv (.t 139))),none,0⟩])
(.seq (.reg [⟨(some 140),(.q (.mv (.t 0))),none,0⟩,
⟨(some 141),(.q (.mv (.t 16))),none,0⟩,
⟨(some 142),(.q (.bin .add (.p .int) (.t 141) (.c (.int .i64 (.ofNat 1))))),none,0⟩,
⟨(some 143),(.q (.mv (.t 2))),none,0⟩,
⟨(some 144),(.q (.mv (.t 3))),none,0⟩,
⟨(some 145),(.q (.mv (.t 4))),none,0⟩,
⟨(some 146),(.x (.call (.c (.fn 77 [] [])) [(.t 140),(.t 142),(.t 143),(.t 144),(.t 145)])),none,0⟩])
(.reg [⟨(some 147),(.q (.mv (.t 16))),none,0⟩,
⟨(some 2),(.q (.mv (.t 147))),none,0⟩]))))))))))))))))))))))⟩
theorem row77 : Row Try.prog (77, a77) := ⟨Try.f77, Try.func77, by kernel_rfl⟩
end Go.Proofs.Ytjjclnclbjifaaa.symmetryNames
