/- The functions that AbstractNames reaches, as data of the evaluator (part 3), written by program; each is shown to be the compiler's result on the loaded function. -/
import Derived.Test.YtfmgnnfghdjpfaaProg
import Derived.Test.YtfmgnnfghdjpfaaEvSt
import Derived.KernelRfl
namespace Go.Proofs.Ytfmgnnfghdjpfaa.abstractNames
open Go.Ev
set_option maxRecDepth 100000
noncomputable def a106 : AFn :=
⟨25,[(.t 2)],(.seq (.reg [⟨(some 2),(.q (.mv (.c (.int .i64 (.ofNat 0))))),none,0⟩])
(.seq (.seq (.reg [⟨(some 5),(.q (.mv (.t 0))),none,0⟩,
⟨(some 6),(.q (.lenSl (.t 5))),none,0⟩,
⟨(some 7),(.q (.bin .lss (.p .int) (.t 6) (.c (.int .i64 (.ofNat 1))))),none,0⟩])
(.cond (.t 7) (.reg [⟨(some 8),(.q (.mkIface 9 (.c (.str [115,108,105,99,101,115,46,77,97,120,58,32,101,109,112,116,121,32,108,105,115,116])))),none,0⟩,
⟨none,(.x (.bad)),none,0⟩]) .skip))
(.seq (.reg [⟨(some 9),(.q (.mv (.t 0))),none,0⟩,
⟨(some 10),(.q (.iaddr (.slice 1) (.t 9) (.c (.int .i64 (.ofNat 0))))),none,0⟩,
⟨(some 11),(.q (.ld false 1 (.t 10))),none,0⟩,
⟨(some 3),(.q (.mv (.t 11))),none,0⟩])
(.seq (.seq (.reg [⟨(some 4),(.q (.mv (.c (.int .i64 (.ofNat 1))))),none,0⟩])
(.block 0 (.loop (.seq (.seq (.reg [⟨(some 12),(.q (.mv (.t 4))),none,0⟩,
⟨(some 13),(.q (.mv (.t 0))),none,0⟩,
⟨(some 14),(.q (.lenSl (.t 13))),none,0⟩,
⟨(some 15),(.q (.bin .lss (.p .int) (.t 12) (.t 14))),none,0⟩])
(.cond (.t 15) .skip (.exit 0)))
(.seq (.block 1 (.reg [⟨(some 18),(.q (.mv (.t 3))),none,0⟩,
⟨(some 19),(.q (.mv (.t 0))),none,0⟩,
⟨(some 20),(.q (.mv (.t 4))),none,0⟩,
⟨(some 21),(.q (.iaddr (.slice 1) (.t 19) (.t 20))),none,0⟩,
⟨(some 22),(.q (.ld false 1 (.t 21))),none,0⟩,
⟨(some 23),(.q (.minmax true [(.t 18),(.t 22)])),none,0⟩,
⟨(some 3),(.q (.mv (.t 23))),none,0⟩]))
(.reg [⟨(some 16),(.q (.mv (.t 4))),none,0⟩,
⟨(some 17),(.q (.bin .add (.p .int) (.t 16) (.c (.int .i64 (.ofNat 1))))),none,0⟩,
⟨(some 4),(.q (.mv (.t 17))),none,0⟩]))))))
(.seq (.reg [⟨(some 24),(.q (.mv (.t 3))),none,0⟩,
⟨(some 2),(.q (.mv (.t 24))),none,0⟩])
.ret)))))⟩
theorem row106 : Row Try.prog (106, a106) := ⟨Try.f106, Try.func106, by kernel_rfl⟩
noncomputable def a107 : AFn :=
⟨80,[(.t 2)],(.seq (.reg [⟨(some 2),(.q (.mv (.c (.int .i64 (.ofNat 0))))),none,0⟩])
(.seq (.reg [⟨(some 8),(.q (.mv (.t 0))),none,0⟩,
⟨(some 9),(.q (.nilchk (.t 8))),none,0⟩,
⟨(some 10),(.q (.faddr 0 (.t 9))),none,0⟩,
⟨(some 11),(.q (.faddr 2 (.t 10))),none,0⟩,
⟨(some 12),(.q (.ld false 1 (.t 11))),none,0⟩,
⟨(some 13),(.q (.lenSl (.t 12))),none,0⟩,
⟨(some 14),(.a (.mkSlice 3 1 8 [(.int .i64 (.ofNat 0))] (.t 13) (.t 13))),none,0⟩,
⟨(some 3),(.q (.mv (.t 14))),none,0⟩])
(.seq (.seq (.reg [⟨(some 15),(.q (.mv (.t 0))),none,0⟩,
⟨(some 16),(.q (.nilchk (.t 15))),none,0⟩,
⟨(some 17),(.q (.faddr 0 (.t 16))),none,0⟩,
⟨(some 18),(.q (.faddr 1 (.t 17))),none,0⟩,
⟨(some 19),(.q (.ld false 1 (.t 18))),none,0⟩,
⟨(some 20),(.q (.lenSl (.t 19))),none,0⟩,
⟨(some 21),(.q (.bin .sub (.p .int) (.t 20) (.c (.int .i64 (.ofNat 1))))),none,0⟩,
⟨(some 4),(.q (.mv (.t 21))),none,0⟩])
(.block 0 (.loop (.seq (.seq (.reg [⟨(some 22),(.q (.mv (.t 4))),none,0⟩,
⟨(some 23),(.q (.bin .geq (.p .int) (.t 22) (.c (.int .i64 (.ofNat 0))))),none,0⟩])
(.cond (.t 23) .skip (.exit 0)))
(.seq (.block 1 (.seq (.reg [⟨(some 26),(.q (.mv (.t 0))),none,0⟩,
⟨(some 27),(.q (.nilchk (.t 26))),none,0⟩,
⟨(some 28),(.q (.faddr 0 (.t 27))),none,0⟩,
⟨(some 29),(.q (.faddr 1 (.t 28))),none,0⟩,
⟨(some 30),(.q (.ld false 1 (.t 29))),none,0⟩,
⟨(some 31),(.q (.mv (.t 4))),none,0⟩,
⟨(some 32),(.q (.iaddr (.slice 6) (.t 30) (.t 31))),none,0⟩,
⟨(some 33),(.q (.ld true 6 (.t 32))),none,0⟩,
⟨(some 5),(.a (.alloc 56 [(.int .i64 (.ofNat 0)),(.int .i64 (.ofNat 0)),(.int .i64 (.ofNat 0)),.nilsl,.nilsl,.nilsl])),none,0⟩,
⟨none,(.x (.st 6 (.t 5) (.t 33))),none,0⟩])
(.seq (.reg [⟨(some 34),(.q (.faddr 0 (.t 5))),none,0⟩,
⟨(some 35),(.q (.ld false 1 (.t 34))),none,0⟩,
⟨(some 36),(.q (.bin .eql (.p .int) (.t 35) (.c (.int .i64 (.ofNat 2))))),none,0⟩])
(.cond (.t 36) (.reg [⟨(some 37),(.q (.mv (.t 3))),none,0⟩,
⟨(some 38),(.q (.faddr 2 (.t 5))),none,0⟩,
⟨(some 39),(.q (.ld false 1 (.t 38))),none,0⟩,
⟨(some 40),(.q (.mv (.t 4))),none,0⟩,
⟨(some 41),(.q (.bin .add (.p .int) (.t 40) (.c (.int .i64 (.ofNat 1))))),none,0⟩,
⟨(some 42),(.q (.iaddr (.slice 1) (.t 37) (.t 39))),none,0⟩,
⟨none,(.x (.st 1 (.t 42) (.t 41))),none,0⟩]) .skip))))
(.reg [⟨(some 24),(.q (.mv (.t 4))),none,0⟩,
⟨(some 25),(.q (.bin .sub (.p .int) (.t 24) (.c (.int .i64 (.ofNat 1))))),none,0⟩,
⟨(some 4),(.q (.mv (.t 25))),none,0⟩]))))))
(.seq (.seq (.reg [⟨(some 43),(.q (.mv (.t 0))),none,0⟩,
⟨(some 44),(.q (.nilchk (.t 43))),none,0⟩,
⟨(some 45),(.q (.faddr 0 (.t 44))),none,0⟩,
⟨(some 46),(.q (.faddr 1 (.t 45))),none,0⟩,
⟨(some 47),(.q (.ld false 1 (.t 46))),none,0⟩,
⟨(some 48),(.q (.lenSl (.t 47))),none,0⟩,
⟨(some 49),(.q (.mv (.c (.int .i64 (.ofNat 0))))),none,0⟩])
(.block 2 (.loop (.seq (.reg [⟨(some 50),(.q (.bin .lss (.p .int) (.t 49) (.t 48))),none,0⟩])
(.seq (.cond (.t 50) .skip (.exit 2))
(.seq (.block 3 (.seq (.reg [⟨(some 51),(.q (.iaddr (.slice 6) (.t 47) (.t 49))),none,0⟩,
⟨(some 52),(.q (.ld true 6 (.t 51))),none,0⟩,
⟨(some 7),(.a (.alloc 56 [(.int .i64 (.ofNat 0)),(.int .i64 (.ofNat 0)),(.int .i64 (.ofNat 0)),.nilsl,.nilsl,.nilsl])),none,0⟩,
⟨none,(.x (.st 6 (.t 7) (.t 52))),none,0⟩])
(.seq (.drw [⟨(some 53),(.q (.faddr 0 (.t 7))),none,0⟩,
⟨(some 54),(.q (.ld false 1 (.t 53))),none,1⟩,
⟨(some 55),(.q (.bin .eql (.p .int) (.t 54) (.c (.int .i64 (.ofNat 2))))),none,3⟩,
⟨(some 56),(.q (.mv (.t 55))),none,7⟩,
⟨(some 57),(.q (.mv (.t 0))),(some (56,true)),15⟩,
⟨(some 58),(.q (.nilchk (.t 57))),(some (56,true)),31⟩,
⟨(some 59),(.q (.faddr 0 (.t 58))),(some (56,true)),63⟩,
⟨(some 60),(.q (.faddr 2 (.t 59))),(some (56,true)),127⟩,
⟨(some 61),(.q (.ld false 1 (.t 60))),(some (56,true)),255⟩,
⟨(some 62),(.q (.faddr 2 (.t 7))),(some (56,true)),15⟩,
⟨(some 63),(.q (.ld false 1 (.t 62))),(some (56,true)),527⟩,
⟨(some 64),(.q (.iaddr (.slice 2) (.t 61) (.t 63))),(some (56,true)),2047⟩,
⟨(some 65),(.q (.ld true 2 (.t 64))),(some (56,true)),4095⟩,
⟨(some 66),(.q (.faddr 1 (.t 7))),(some (56,true)),15⟩,
⟨(some 67),(.q (.ld false 1 (.t 66))),(some (56,true)),8207⟩,
⟨(some 68),(.q (.faddr 3 (.t 7))),(some (56,true)),15⟩,
⟨(some 69),(.q (.ld false 1 (.t 68))),(some (56,true)),32783⟩,
⟨(some 70),(.q (.lenSl (.t 69))),(some (56,true)),98319⟩,
⟨(some 71),(.q (.build [(.int .i64 (.ofNat 0)),(.int .i64 (.ofNat 0))] [(0,1,(.t 67)),(1,1,(.t 70))])),(some (56,true)),253967⟩,
⟨(some 72),(.q (.bin .neq (.struct [(0,.int),(1,.int)]) (.t 65) (.t 71))),(some (56,true)),524287⟩,
⟨(some 73),(.q (.pick (.t 56) (.t 72) (.c (.bool false)))),none,1048575⟩])
(.cond (.t 73) (.seq (.reg [⟨(some 2),(.q (.mv (.c (.int .i64 (.ofNat 10))))),none,0⟩])
.ret) .skip))))
(.reg [⟨(some 74),(.q (.bin .add (.p .int) (.t 49) (.c (.int .i64 (.ofNat 1))))),none,0⟩,
⟨(some 49),(.q (.mv (.t 74))),none,0⟩])))))))
(.seq (.seq (.reg [⟨(some 75),(.q (.mv (.t 3))),none,0⟩,
⟨(some 76),(.x (.call (.c (.fn 111 [] [])) [(.t 75),(.c (.int .i64 (.ofNat 0)))])),none,0⟩])
(.cond (.t 76) (.seq (.reg [⟨(some 2),(.q (.mv (.c (.int .i64 (.ofNat 18))))),none,0⟩])
.ret) .skip))
(.seq (.seq (.reg [⟨(some 77),(.q (.mv (.t 3))),none,0⟩,
⟨(some 78),(.x (.call (.c (.fn 112 [] [])) [(.t 77)])),none,0⟩,
⟨(some 79),(.q (.un .not (.t 78))),none,0⟩])
(.cond (.t 79) (.seq (.reg [⟨(some 2),(.q (.mv (.c (.int .i64 (.ofNat 9))))),none,0⟩])
.ret) .skip))
(.seq (.reg [⟨(some 2),(.q (.mv (.c (.int .i64 (.ofNat 0))))),none,0⟩])
.ret)))))))⟩
theorem row107 : Row Try.prog (107, a107) := ⟨Try.f107, Try.func107, by kernel_rfl⟩
noncomputable def a108 : AFn :=
⟨43,[(.t 4)],(.seq (.reg [⟨(some 3),(.a (.box 56 (.t 1))),none,0⟩,
⟨(some 4),(.q (.mv (.c (.int .i64 (.ofNat 0))))),none,0⟩])
(.seq (.seq (.reg [⟨(some 5),(.q (.faddr 1 (.t 3))),none,0⟩,
⟨(some 6),(.q (.ld false 1 (.t 5))),none,0⟩,
⟨(some 7),(.q (.bin .neq (.p .int) (.t 6) (.c (.int .i64 (.ofNat 0))))),none,0⟩,
⟨(some 8),(.q (.mv (.t 7))),none,0⟩,
⟨(some 9),(.q (.faddr 2 (.t 3))),(some (8,false)),0⟩,
⟨(some 10),(.q (.ld false 1 (.t 9))),(some (8,false)),0⟩,
⟨(some 11),(.q (.bin .neq (.p .int) (.t 10) (.c (.int .i64 (.ofNat 0))))),(some (8,false)),0⟩,
⟨(some 12),(.q (.pick (.t 8) (.c (.bool true)) (.t 11))),none,0⟩,
⟨(some 13),(.q (.mv (.t 12))),none,0⟩,
⟨(some 14),(.q (.faddr 5 (.t 3))),(some (13,false)),0⟩,
⟨(some 15),(.q (.ld false 1 (.t 14))),(some (13,false)),0⟩,
⟨(some 16),(.q (.lenSl (.t 15))),(some (13,false)),0⟩,
⟨(some 17),(.q (.bin .gtr (.p .int) (.t 16) (.c (.int .i64 (.ofNat 0))))),(some (13,false)),0⟩,
⟨(some 18),(.q (.pick (.t 13) (.c (.bool true)) (.t 17))),none,0⟩,
⟨(some 19),(.q (.mv (.t 18))),none,0⟩,
⟨(some 20),(.q (.faddr 3 (.t 3))),(some (19,false)),0⟩,
⟨(some 21),(.q (.ld false 1 (.t 20))),(some (19,false)),0⟩,
⟨(some 22),(.q (.lenSl (.t 21))),(some (19,false)),0⟩,
⟨(some 23),(.q (.bin .lss (.p .int) (.t 22) (.c (.int .i64 (.ofNat 1))))),(some (19,false)),0⟩,
⟨(some 24),(.q (.pick (.t 19) (.c (.bool true)) (.t 23))),none,0⟩,
⟨(some 25),(.q (.mv (.t 24))),none,0⟩,
⟨(some 26),(.q (.faddr 3 (.t 3))),(some (25,false)),0⟩,
⟨(some 27),(.q (.ld false 1 (.t 26))),(some (25,false)),0⟩,
⟨(some 28),(.q (.lenSl (.t 27))),(some (25,false)),0⟩,
⟨(some 29),(.q (.bin .gtr (.p .int) (.t 28) (.c (.int .i64 (.ofNat 60))))),(some (25,false)),0⟩,
⟨(some 30),(.q (.pick (.t 25) (.c (.bool true)) (.t 29))),none,0⟩,
⟨(some 31),(.q (.mv (.t 30))),none,0⟩,
⟨(some 32),(.q (.faddr 4 (.t 3))),(some (31,false)),0⟩,
⟨(some 33),(.q (.ld false 1 (.t 32))),(some (31,false)),0⟩,
⟨(some 34),(.q (.lenSl (.t 33))),(some (31,false)),0⟩,
⟨(some 35),(.q (.faddr 3 (.t 3))),(some (31,false)),0⟩,
⟨(some 36),(.q (.ld false 1 (.t 35))),(some (31,false)),0⟩,
⟨(some 37),(.q (.lenSl (.t 36))),(some (31,false)),0⟩,
⟨(some 38),(.q (.bin .neq (.p .int) (.t 34) (.t 37))),(some (31,false)),0⟩,
⟨(some 39),(.q (.pick (.t 31) (.c (.bool true)) (.t 38))),none,0⟩])
(.cond (.t 39) (.seq (.reg [⟨(some 4),(.q (.mv (.c (.int .i64 (.ofNat 3))))),none,0⟩])
.ret) .skip))
(.seq (.reg [⟨(some 40),(.q (.faddr 4 (.t 3))),none,0⟩,
⟨(some 41),(.q (.ld false 1 (.t 40))),none,0⟩,
⟨(some 42),(.x (.call (.c (.fn 113 [] [])) [(.c (.int .i64 (.ofNat 1))),(.c (.int .i64 (.ofNat 1000))),(.t 41)])),none,0⟩,
⟨(some 4),(.q (.mv (.t 42))),none,0⟩])
.ret)))⟩
theorem row108 : Row Try.prog (108, a108) := ⟨Try.f108, Try.func108, by kernel_rfl⟩
noncomputable def a109 : AFn :=
⟨52,[(.t 4)],(.seq (.reg [⟨(some 3),(.a (.box 56 (.t 1))),none,0⟩,
⟨(some 4),(.q (.mv (.c (.int .i64 (.ofNat 0))))),none,0⟩])
(.seq (.seq (.reg [⟨(some 6),(.q (.faddr 4 (.t 3))),none,0⟩,
⟨(some 7),(.q (.ld false 1 (.t 6))),none,0⟩,
⟨(some 8),(.q (.lenSl (.t 7))),none,0⟩,
⟨(some 9),(.q (.bin .gtr (.p .int) (.t 8) (.c (.int .i64 (.ofNat 0))))),none,0⟩,
⟨(some 10),(.q (.mv (.t 9))),none,0⟩,
⟨(some 11),(.q (.faddr 5 (.t 3))),(some (10,false)),0⟩,
⟨(some 12),(.q (.ld false 1 (.t 11))),(some (10,false)),0⟩,
⟨(some 13),(.q (.lenSl (.t 12))),(some (10,false)),0⟩,
⟨(some 14),(.q (.bin .gtr (.p .int) (.t 13) (.c (.int .i64 (.ofNat 0))))),(some (10,false)),0⟩,
⟨(some 15),(.q (.pick (.t 10) (.c (.bool true)) (.t 14))),none,0⟩,
⟨(some 16),(.q (.mv (.t 15))),none,0⟩,
⟨(some 17),(.q (.faddr 3 (.t 3))),(some (16,false)),0⟩,
⟨(some 18),(.q (.ld false 1 (.t 17))),(some (16,false)),0⟩,
⟨(some 19),(.q (.lenSl (.t 18))),(some (16,false)),0⟩,
⟨(some 20),(.q (.bin .lss (.p .int) (.t 19) (.c (.int .i64 (.ofNat 1))))),(some (16,false)),0⟩,
⟨(some 21),(.q (.pick (.t 16) (.c (.bool true)) (.t 20))),none,0⟩,
⟨(some 22),(.q (.mv (.t 21))),none,0⟩,
⟨(some 23),(.q (.faddr 3 (.t 3))),(some (22,false)),0⟩,
⟨(some 24),(.q (.ld false 1 (.t 23))),(some (22,false)),0⟩,
⟨(some 25),(.q (.lenSl (.t 24))),(some (22,false)),0⟩,
⟨(some 26),(.q (.bin .gtr (.p .int) (.t 25) (.c (.int .i64 (.ofNat 10))))),(some (22,false)),0⟩,
⟨(some 27),(.q (.pick (.t 22) (.c (.bool true)) (.t 26))),none,0⟩])
(.cond (.t 27) (.seq (.reg [⟨(some 4),(.q (.mv (.c (.int .i64 (.ofNat 3))))),none,0⟩])
.ret) .skip))
(.seq (.seq (.drw [⟨(some 28),(.q (.mv (.t 0))),none,0⟩,
⟨(some 29),(.q (.nilchk (.t 28))),none,1⟩,
⟨(some 30),(.q (.faddr 0 (.t 29))),none,3⟩,
⟨(some 31),(.q (.faddr 0 (.t 30))),none,7⟩,
⟨(some 32),(.q (.ld false 1 (.t 31))),none,15⟩,
⟨(some 33),(.q (.bin .sub (.p .int) (.t 32) (.c (.int .i64 (.ofNat 1))))),none,31⟩,
⟨(some 34),(.q (.faddr 1 (.t 3))),none,0⟩,
⟨(some 35),(.q (.ld false 1 (.t 34))),none,64⟩,
⟨(some 36),(.a (.bslice 3 1 1 [(.int .i64 (.ofNat 0))] [(0,(.t 35))])),none,192⟩,
⟨(some 37),(.x (.call (.c (.fn 113 [] [])) [(.c (.int .i64 (.ofNat 0))),(.t 33),(.t 36)])),none,511⟩,
⟨(some 5),(.q (.mv (.t 37))),none,1023⟩])
(.seq (.reg [⟨(some 38),(.q (.mv (.t 5))),none,0⟩,
⟨(some 39),(.q (.bin .neq (.p .int) (.t 38) (.c (.int .i64 (.ofNat 0))))),none,0⟩])
(.cond (.t 39) (.seq (.reg [⟨(some 40),(.q (.mv (.t 5))),none,0⟩,
⟨(some 4),(.q (.mv (.t 40))),none,0⟩])
.ret) .skip)))
(.seq (.drw [⟨(some 41),(.q (.mv (.t 0))),none,0⟩,
⟨(some 42),(.q (.nilchk (.t 41))),none,1⟩,
⟨(some 43),(.q (.faddr 0 (.t 42))),none,3⟩,
⟨(some 44),(.q (.faddr 2 (.t 43))),none,7⟩,
⟨(some 45),(.q (.ld false 1 (.t 44))),none,15⟩,
⟨(some 46),(.q (.lenSl (.t 45))),none,31⟩,
⟨(some 47),(.q (.bin .sub (.p .int) (.t 46) (.c (.int .i64 (.ofNat 1))))),none,63⟩,
⟨(some 48),(.q (.faddr 2 (.t 3))),none,0⟩,
⟨(some 49),(.q (.ld false 1 (.t 48))),none,128⟩,
⟨(some 50),(.a (.bslice 3 1 1 [(.int .i64 (.ofNat 0))] [(0,(.t 49))])),none,384⟩,
⟨(some 51),(.x (.call (.c (.fn 113 [] [])) [(.c (.int .i64 (.ofNat 0))),(.t 47),(.t 50)])),none,1023⟩,
⟨(some 4),(.q (.mv (.t 51))),none,2047⟩])
.ret))))⟩
theorem row109 : Row Try.prog (109, a109) := ⟨Try.f109, Try.func109, by kernel_rfl⟩
noncomputable def a110 : AFn :=
⟨39,[(.t 4)],(.seq (.reg [⟨(some 3),(.a (.box 56 (.t 1))),none,0⟩,
⟨(some 4),(.q (.mv (.c (.int .i64 (.ofNat 0))))),none,0⟩])
(.seq (.seq (.drw [⟨(some 5),(.q (.faddr 1 (.t 3))),none,0⟩,
⟨(some 6),(.q (.ld false 1 (.t 5))),none,1⟩,
⟨(some 7),(.q (.bin .neq (.p .int) (.t 6) (.c (.int .i64 (.ofNat 0))))),none,3⟩,
⟨(some 8),(.q (.mv (.t 7))),none,7⟩,
⟨(some 9),(.q (.faddr 2 (.t 3))),(some (8,false)),15⟩,
⟨(some 10),(.q (.ld false 1 (.t 9))),(some (8,false)),31⟩,
⟨(some 11),(.q (.bin .neq (.p .int) (.t 10) (.c (.int .i64 (.ofNat 0))))),(some (8,false)),63⟩,
⟨(some 12),(.q (.pick (.t 8) (.c (.bool true)) (.t 11))),none,127⟩,
⟨(some 13),(.q (.mv (.t 12))),none,255⟩,
⟨(some 14),(.q (.faddr 3 (.t 3))),(some (13,false)),511⟩,
⟨(some 15),(.q (.ld false 1 (.t 14))),(some (13,false)),1023⟩,
⟨(some 16),(.q (.lenSl (.t 15))),(some (13,false)),2047⟩,
⟨(some 17),(.q (.bin .gtr (.p .int) (.t 16) (.c (.int .i64 (.ofNat 0))))),(some (13,false)),4095⟩,
⟨(some 18),(.q (.pick (.t 13) (.c (.bool true)) (.t 17))),none,8191⟩,
⟨(some 19),(.q (.mv (.t 18))),none,16383⟩,
⟨(some 20),(.q (.faddr 4 (.t 3))),(some (19,false)),32767⟩,
⟨(some 21),(.q (.ld false 1 (.t 20))),(some (19,false)),65535⟩,
⟨(some 22),(.q (.lenSl (.t 21))),(some (19,false)),131071⟩,
⟨(some 23),(.q (.bin .gtr (.p .int) (.t 22) (.c (.int .i64 (.ofNat 0))))),(some (19,false)),262143⟩,
⟨(some 24),(.q (.pick (.t 19) (.c (.bool true)) (.t 23))),none,524287⟩,
⟨(some 25),(.q (.mv (.t 24))),none,1048575⟩,
⟨(some 26),(.q (.faddr 5 (.t 3))),(some (25,false)),2097151⟩,
⟨(some 27),(.q (.ld false 1 (.t 26))),(some (25,false)),4194303⟩,
⟨(some 28),(.q (.lenSl (.t 27))),(some (25,false)),8388607⟩,
⟨(some 29),(.q (.mv (.t 0))),(some (25,false)),2097151⟩,
⟨(some 30),(.q (.nilchk (.t 29))),(some (25,false)),18874367⟩,
⟨(some 31),(.q (.faddr 0 (.t 30))),(some (25,false)),52428799⟩,
⟨(some 32),(.q (.faddr 0 (.t 31))),(some (25,false)),119537663⟩,
⟨(some 33),(.q (.ld false 1 (.t 32))),(some (25,false)),253755391⟩,
⟨(some 34),(.q (.bin .neq (.p .int) (.t 28) (.t 33))),(some (25,false)),536870911⟩,
⟨(some 35),(.q (.pick (.t 25) (.c (.bool true)) (.t 34))),none,1073741823⟩])
(.cond (.t 35) (.seq (.reg [⟨(some 4),(.q (.mv (.c (.int .i64 (.ofNat 3))))),none,0⟩])
.ret) .skip))
(.seq (.reg [⟨(some 36),(.q (.faddr 5 (.t 3))),none,0⟩,
⟨(some 37),(.q (.ld false 1 (.t 36))),none,0⟩,
⟨(some 38),(.x (.call (.c (.fn 113 [] [])) [(.c (.int .i64 (.negSucc 999999))),(.c (.int .i64 (.ofNat 1000000))),(.t 37)])),none,0⟩,
⟨(some 4),(.q (.mv (.t 38))),none,0⟩])
.ret)))⟩
theorem row110 : Row Try.prog (110, a110) := ⟨Try.f110, Try.func110, by kernel_rfl⟩
noncomputable def a111 : AFn :=
⟨9,[(.t 4)],(.seq (.reg [⟨(some 4),(.q (.mv (.c (.bool false)))),none,0⟩])
(.seq (.reg [⟨(some 5),(.q (.mv (.t 0))),none,0⟩,
⟨(some 6),(.q (.mv (.t 1))),none,0⟩,
⟨(some 7),(.x (.call (.c (.fn 114 [] [])) [(.t 5),(.t 6)])),none,0⟩,
⟨(some 8),(.q (.bin .geq (.p .int) (.t 7) (.c (.int .i64 (.ofNat 0))))),none,0⟩,
⟨(some 4),(.q (.mv (.t 8))),none,0⟩])
.ret))⟩
theorem row111 : Row Try.prog (111, a111) := ⟨Try.f111, Try.func111, by kernel_rfl⟩
noncomputable def a112 : AFn :=
⟨21,[(.t 2)],(.seq (.reg [⟨(some 2),(.q (.mv (.c (.bool false)))),none,0⟩])
(.seq (.seq (.reg [⟨(some 4),(.q (.mv (.t 0))),none,0⟩,
⟨(some 5),(.q (.lenSl (.t 4))),none,0⟩,
⟨(some 6),(.q (.bin .sub (.p .int) (.t 5) (.c (.int .i64 (.ofNat 1))))),none,0⟩,
⟨(some 3),(.q (.mv (.t 6))),none,0⟩])
(.block 0 (.loop (.seq (.seq (.reg [⟨(some 7),(.q (.mv (.t 3))),none,0⟩,
⟨(some 8),(.q (.bin .gtr (.p .int) (.t 7) (.c (.int .i64 (.ofNat 0))))),none,0⟩])
(.cond (.t 8) .skip (.exit 0)))
(.seq (.block 1 (.seq (.drw [⟨(some 11),(.q (.mv (.t 0))),none,0⟩,
⟨(some 12),(.q (.mv (.t 3))),none,0⟩,
⟨(some 13),(.q (.iaddr (.slice 1) (.t 11) (.t 12))),none,3⟩,
⟨(some 14),(.q (.ld false 1 (.t 13))),none,7⟩,
⟨(some 15),(.q (.mv (.t 0))),none,0⟩,
⟨(some 16),(.q (.mv (.t 3))),none,0⟩,
⟨(some 17),(.q (.bin .sub (.p .int) (.t 16) (.c (.int .i64 (.ofNat 1))))),none,32⟩,
⟨(some 18),(.q (.iaddr (.slice 1) (.t 15) (.t 17))),none,112⟩,
⟨(some 19),(.q (.ld false 1 (.t 18))),none,240⟩,
⟨(some 20),(.x (.call (.c (.fn 115 [] [])) [(.t 14),(.t 19)])),none,511⟩])
(.cond (.t 20) (.seq (.reg [⟨(some 2),(.q (.mv (.c (.bool false)))),none,0⟩])
.ret) .skip)))
(.reg [⟨(some 9),(.q (.mv (.t 3))),none,0⟩,
⟨(some 10),(.q (.bin .sub (.p .int) (.t 9) (.c (.int .i64 (.ofNat 1))))),none,0⟩,
⟨(some 3),(.q (.mv (.t 10))),none,0⟩]))))))
(.seq (.reg [⟨(some 2),(.q (.mv (.c (.bool true)))),none,0⟩])
.ret)))⟩
theorem row112 : Row Try.prog (112, a112) := ⟨Try.f112, Try.func112, by kernel_rfl⟩
noncomputable def a113 : AFn :=
⟨10,[(.t 6)],(.seq (.reg [⟨(some 3),(.a (.box 3 (.t 0))),none,0⟩,
⟨(some 4),(.a (.box 3 (.t 1))),none,0⟩,
⟨(some 6),(.q (.mv (.c (.int .i64 (.ofNat 0))))),none,0⟩])
(.seq (.seq (.reg [⟨(some 7),(.q (.mv (.t 2))),none,0⟩,
⟨(some 8),(.q (.mkFunc 117 [] [(.t 3),(.t 4)])),none,0⟩,
⟨(some 9),(.x (.call (.c (.fn 116 [] [])) [(.t 7),(.t 8)])),none,0⟩])
(.cond (.t 9) (.seq (.reg [⟨(some 6),(.q (.mv (.c (.int .i64 (.ofNat 2))))),none,0⟩])
.ret) .skip))
(.seq (.reg [⟨(some 6),(.q (.mv (.c (.int .i64 (.ofNat 0))))),none,0⟩])
.ret)))⟩
theorem row113 : Row Try.prog (113, a113) := ⟨Try.f113, Try.func113, by kernel_rfl⟩
noncomputable def a114 : AFn :=
⟨19,[(.t 4)],(.seq (.reg [⟨(some 4),(.q (.mv (.c (.int .i64 (.ofNat 0))))),none,0⟩])
(.seq (.seq (.reg [⟨(some 6),(.q (.mv (.t 0))),none,0⟩,
⟨(some 7),(.q (.lenSl (.t 6))),none,0⟩,
⟨(some 8),(.q (.mv (.c (.int .i64 (.ofNat 0))))),none,0⟩])
(.block 0 (.loop (.seq (.reg [⟨(some 9),(.q (.bin .lss (.p .int) (.t 8) (.t 7))),none,0⟩])
(.seq (.cond (.t 9) .skip (.exit 0))
(.seq (.block 1 (.seq (.reg [⟨(some 10),(.q (.mv (.t 8))),none,0⟩,
⟨(some 5),(.q (.mv (.t 10))),none,0⟩])
(.seq (.reg [⟨(some 11),(.q (.mv (.t 1))),none,0⟩,
⟨(some 12),(.q (.mv (.t 0))),none,0⟩,
⟨(some 13),(.q (.mv (.t 5))),none,0⟩,
⟨(some 14),(.q (.iaddr (.slice 1) (.t 12) (.t 13))),none,0⟩,
⟨(some 15),(.q (.ld false 1 (.t 14))),none,0⟩,
⟨(some 16),(.q (.bin .eql (.p .int) (.t 11) (.t 15))),none,0⟩])
(.cond (.t 16) (.seq (.reg [⟨(some 17),(.q (.mv (.t 5))),none,0⟩,
⟨(some 4),(.q (.mv (.t 17))),none,0⟩])
.ret) .skip))))
(.reg [⟨(some 18),(.q (.bin .add (.p .int) (.t 8) (.c (.int .i64 (.ofNat 1))))),none,0⟩,
⟨(some 8),(.q (.mv (.t 18))),none,0⟩])))))))
(.seq (.reg [⟨(some 4),(.q (.mv (.c (.int .i64 (.negSucc 0))))),none,0⟩])
.ret)))⟩
theorem row114 : Row Try.prog (114, a114) := ⟨Try.f114, Try.func114, by kernel_rfl⟩
noncomputable def a115 : AFn :=
⟨17,[(.t 4)],(.seq (.reg [⟨(some 4),(.q (.mv (.c (.bool false)))),none,0⟩])
(.seq (.reg [⟨(some 5),(.q (.mv (.t 0))),none,0⟩,
⟨(some 6),(.x (.call (.c (.fn 118 [] [])) [(.t 5)])),none,0⟩,
⟨(some 7),(.q (.mv (.t 6))),none,0⟩,
⟨(some 8),(.q (.mv (.t 1))),(some (7,true)),0⟩,
⟨(some 9),(.x (.call (.c (.fn 118 [] [])) [(.t 8)])),(some (7,true)),0⟩,
⟨(some 10),(.q (.un .not (.t 9))),(some (7,true)),0⟩,
⟨(some 11),(.q (.pick (.t 7) (.t 10) (.c (.bool false)))),none,0⟩,
⟨(some 12),(.q (.mv (.t 11))),none,0⟩,
⟨(some 13),(.q (.mv (.t 0))),(some (12,false)),0⟩,
⟨(some 14),(.q (.mv (.t 1))),(some (12,false)),0⟩,
⟨(some 15),(.q (.bin .lss (.p .int) (.t 13) (.t 14))),(some (12,false)),0⟩,
⟨(some 16),(.q (.pick (.t 12) (.c (.bool true)) (.t 15))),none,0⟩,
⟨(some 4),(.q (.mv (.t 16))),none,0⟩])
.ret))⟩
theorem row115 : Row Try.prog (115, a115) := ⟨Try.f115, Try.func115, by kernel_rfl⟩
noncomputable def a116 : AFn :=
⟨9,[(.t 4)],(.seq (.reg [⟨(some 4),(.q (.mv (.c (.bool false)))),none,0⟩])
(.seq (.reg [⟨(some 5),(.q (.mv (.t 0))),none,0⟩,
⟨(some 6),(.q (.mv (.t 1))),none,0⟩,
⟨(some 7),(.x (.call (.c (.fn 119 [] [])) [(.t 5),(.t 6)])),none,0⟩,
⟨(some 8),(.q (.bin .geq (.p .int) (.t 7) (.c (.int .i64 (.ofNat 0))))),none,0⟩,
⟨(some 4),(.q (.mv (.t 8))),none,0⟩])
.ret))⟩
theorem row116 : Row Try.prog (116, a116) := ⟨Try.f116, Try.func116, by kernel_rfl⟩
noncomputable def a117 : AFn :=
⟨13,[(.t 4)],(.seq (.reg [⟨(some 4),(.q (.mv (.c (.bool false)))),none,0⟩])
(.seq (.reg [⟨(some 5),(.q (.mv (.t 0))),none,0⟩,
⟨(some 6),(.q (.ld false 1 (.t 1))),none,0⟩,
⟨(some 7),(.q (.bin .lss (.p .int) (.t 5) (.t 6))),none,0⟩,
⟨(some 8),(.q (.mv (.t 7))),none,0⟩,
⟨(some 9),(.q (.mv (.t 0))),(some (8,false)),0⟩,
⟨(some 10),(.q (.ld false 1 (.t 2))),(some (8,false)),0⟩,
⟨(some 11),(.q (.bin .gtr (.p .int) (.t 9) (.t 10))),(some (8,false)),0⟩,
⟨(some 12),(.q (.pick (.t 8) (.c (.bool true)) (.t 11))),none,0⟩,
⟨(some 4),(.q (.mv (.t 12))),none,0⟩])
.ret))⟩
theorem row117 : Row Try.prog (117, a117) := ⟨Try.f117, Try.func117, by kernel_rfl⟩
noncomputable def a118 : AFn :=
⟨6,[(.t 2)],(.seq (.reg [⟨(some 2),(.q (.mv (.c (.bool false)))),none,0⟩])
(.seq (.reg [⟨(some 3),(.q (.mv (.t 0))),none,0⟩,
⟨(some 4),(.q (.mv (.t 0))),none,0⟩,
⟨(some 5),(.q (.bin .neq (.p .int) (.t 3) (.t 4))),none,0⟩,
⟨(some 2),(.q (.mv (.t 5))),none,0⟩])
.ret))⟩
theorem row118 : Row Try.prog (118, a118) := ⟨Try.f118, Try.func118, by kernel_rfl⟩
noncomputable def a119 : AFn :=
⟨19,[(.t 4)],(.seq (.reg [⟨(some 4),(.q (.mv (.c (.int .i64 (.ofNat 0))))),none,0⟩])
(.seq (.seq (.reg [⟨(some 6),(.q (.mv (.t 0))),none,0⟩,
⟨(some 7),(.q (.lenSl (.t 6))),none,0⟩,
⟨(some 8),(.q (.mv (.c (.int .i64 (.ofNat 0))))),none,0⟩])
(.block 0 (.loop (.seq (.reg [⟨(some 9),(.q (.bin .lss (.p .int) (.t 8) (.t 7))),none,0⟩])
(.seq (.cond (.t 9) .skip (.exit 0))
(.seq (.block 1 (.seq (.reg [⟨(some 10),(.q (.mv (.t 8))),none,0⟩,
⟨(some 5),(.q (.mv (.t 10))),none,0⟩])
(.seq (.reg [⟨(some 11),(.q (.mv (.t 1))),none,0⟩,
⟨(some 12),(.q (.mv (.t 0))),none,0⟩,
⟨(some 13),(.q (.mv (.t 5))),none,0⟩,
⟨(some 14),(.q (.iaddr (.slice 1) (.t 12) (.t 13))),none,0⟩,
⟨(some 15),(.q (.ld false 1 (.t 14))),none,0⟩,
⟨(some 16),(.x (.call (.t 11) [(.t 15)])),none,0⟩])
(.cond (.t 16) (.seq (.reg [⟨(some 17),(.q (.mv (.t 5))),none,0⟩,
⟨(some 4),(.q (.mv (.t 17))),none,0⟩])
.ret) .skip))))
(.reg [⟨(some 18),(.q (.bin .add (.p .int) (.t 8) (.c (.int .i64 (.ofNat 1))))),none,0⟩,
⟨(some 8),(.q (.mv (.t 18))),none,0⟩])))))))
(.seq (.reg [⟨(some 4),(.q (.mv (.c (.int .i64 (.negSucc 0))))),none,0⟩])
.ret)))⟩
theorem row119 : Row Try.prog (119, a119) := ⟨Try.f119, Try.func119, by kernel_rfl⟩
end Go.Proofs.Ytfmgnnfghdjpfaa.abstractNames
