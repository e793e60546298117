/- The functions that MergeNames reaches, as data of the evaluator (part 1), written by program; each is shown to be the compiler's result on the loaded function. -/
import Derived.Test.YtfmgnnfghdjpfaaDoorProg
import Derived.Test.YtfmgnnfghdjpfaaDoorEv7
import Derived.KernelRfl
namespace Go.Proofs.YtfmgnnfghdjpfaaDoor.mergeNames
open Go.Ev
set_option maxRecDepth 100000
noncomputable def a42 : AFn :=
⟨8,[(.t 2)],(.seq (.reg [⟨(some 2),(.q (.mv (.c .nilsl))),none,0⟩])
(.seq (.seq (.reg [⟨(some 3),(.q (.mv (.t 0))),none,0⟩,
⟨(some 4),(.q (.bin .eql (.p .slice) (.t 3) (.c .nilsl))),none,0⟩])
(.cond (.t 4) (.seq (.reg [⟨(some 2),(.q (.mv (.c .nilsl))),none,0⟩])
.ret) .skip))
(.seq (.reg [⟨(some 5),(.a (.bslice 3 1 0 [(.int .i64 (.ofNat 0))] [])),none,0⟩,
⟨(some 6),(.q (.mv (.t 0))),none,0⟩,
⟨(some 7),(.x (.app 3 1 8 (.t 5) (.t 6))),none,0⟩,
⟨(some 2),(.q (.mv (.t 7))),none,0⟩])
.ret)))⟩
theorem row42 : Row Tryd.prog (42, a42) := ⟨Tryd.f42, Tryd.func42, by kernel_rfl⟩
noncomputable def a43 : AFn :=
⟨8,[(.cell 4 true 6)],(.seq (.reg [⟨(some 4),(.a (.alloc 51 [(.int .i64 (.ofNat 0)),(.int .i64 (.ofNat 0)),(.int .i64 (.ofNat 0)),.nilsl,.nilsl,.nilsl])),none,0⟩])
(.seq (.reg [⟨(some 5),(.q (.mv (.t 0))),none,0⟩,
⟨(some 6),(.q (.mv (.t 1))),none,0⟩,
⟨(some 7),(.q (.build [(.int .i64 (.ofNat 0)),(.int .i64 (.ofNat 0)),(.int .i64 (.ofNat 0)),.nilsl,.nilsl,.nilsl] [(0,1,(.c (.int .i64 (.ofNat 1)))),(4,1,(.t 5)),(3,1,(.t 6))])),none,0⟩,
⟨none,(.x (.st 6 (.t 4) (.t 7))),none,0⟩])
.ret))⟩
theorem row43 : Row Tryd.prog (43, a43) := ⟨Tryd.f43, Tryd.func43, by kernel_rfl⟩
noncomputable def a44 : AFn :=
⟨6,[(.cell 2 true 6)],(.seq (.reg [⟨(some 2),(.a (.alloc 51 [(.int .i64 (.ofNat 0)),(.int .i64 (.ofNat 0)),(.int .i64 (.ofNat 0)),.nilsl,.nilsl,.nilsl])),none,0⟩])
(.seq (.reg [⟨(some 3),(.q (.mv (.t 0))),none,0⟩,
⟨(some 4),(.a (.bslice 3 1 1 [(.int .i64 (.ofNat 0))] [(0,(.t 3))])),none,0⟩,
⟨(some 5),(.q (.build [(.int .i64 (.ofNat 0)),(.int .i64 (.ofNat 0)),(.int .i64 (.ofNat 0)),.nilsl,.nilsl,.nilsl] [(0,1,(.c (.int .i64 (.ofNat 3)))),(5,1,(.t 4))])),none,0⟩,
⟨none,(.x (.st 6 (.t 2) (.t 5))),none,0⟩])
.ret))⟩
theorem row44 : Row Tryd.prog (44, a44) := ⟨Tryd.f44, Tryd.func44, by kernel_rfl⟩
noncomputable def a45 : AFn :=
⟨97,[(.t 2),(.t 3)],(.seq (.reg [⟨(some 1),(.a (.box 25 (.t 0))),none,0⟩,
⟨(some 2),(.q (.mv (.c .nilp))),none,0⟩,
⟨(some 3),(.q (.mv (.c (.int .i64 (.ofNat 0))))),none,0⟩])
(.seq (.seq (.reg [⟨(some 10),(.q (.faddr 0 (.t 1))),none,0⟩,
⟨(some 11),(.q (.ld false 1 (.t 10))),none,0⟩,
⟨(some 12),(.q (.bin .lss (.p .int) (.t 11) (.c (.int .i64 (.ofNat 1))))),none,0⟩,
⟨(some 13),(.q (.mv (.t 12))),none,0⟩,
⟨(some 14),(.q (.faddr 0 (.t 1))),(some (13,false)),0⟩,
⟨(some 15),(.q (.ld false 1 (.t 14))),(some (13,false)),0⟩,
⟨(some 16),(.q (.bin .gtr (.p .int) (.t 15) (.c (.int .i64 (.ofNat 4))))),(some (13,false)),0⟩,
⟨(some 17),(.q (.pick (.t 13) (.c (.bool true)) (.t 16))),none,0⟩,
⟨(some 18),(.q (.mv (.t 17))),none,0⟩,
⟨(some 19),(.q (.faddr 1 (.t 1))),(some (18,false)),0⟩,
⟨(some 20),(.q (.ld false 1 (.t 19))),(some (18,false)),0⟩,
⟨(some 21),(.q (.lenSl (.t 20))),(some (18,false)),0⟩,
⟨(some 22),(.q (.bin .lss (.p .int) (.t 21) (.c (.int .i64 (.ofNat 1))))),(some (18,false)),0⟩,
⟨(some 23),(.q (.pick (.t 18) (.c (.bool true)) (.t 22))),none,0⟩,
⟨(some 24),(.q (.mv (.t 23))),none,0⟩,
⟨(some 25),(.q (.faddr 1 (.t 1))),(some (24,false)),0⟩,
⟨(some 26),(.q (.ld false 1 (.t 25))),(some (24,false)),0⟩,
⟨(some 27),(.q (.lenSl (.t 26))),(some (24,false)),0⟩,
⟨(some 28),(.q (.bin .gtr (.p .int) (.t 27) (.c (.int .i64 (.ofNat 2000))))),(some (24,false)),0⟩,
⟨(some 29),(.q (.pick (.t 24) (.c (.bool true)) (.t 28))),none,0⟩,
⟨(some 30),(.q (.mv (.t 29))),none,0⟩,
⟨(some 31),(.q (.faddr 2 (.t 1))),(some (30,false)),0⟩,
⟨(some 32),(.q (.ld false 1 (.t 31))),(some (30,false)),0⟩,
⟨(some 33),(.q (.lenSl (.t 32))),(some (30,false)),0⟩,
⟨(some 34),(.q (.bin .gtr (.p .int) (.t 33) (.c (.int .i64 (.ofNat 200))))),(some (30,false)),0⟩,
⟨(some 35),(.q (.pick (.t 30) (.c (.bool true)) (.t 34))),none,0⟩])
(.cond (.t 35) (.seq (.reg [⟨(some 2),(.q (.mv (.c .nilp))),none,0⟩,
⟨(some 3),(.q (.mv (.c (.int .i64 (.ofNat 2))))),none,0⟩])
.ret) .skip))
(.seq (.reg [⟨(some 36),(.q (.ld true 3 (.t 1))),none,0⟩,
⟨(some 37),(.q (.build [(.int .i64 (.ofNat 0)),.nilsl,.nilsl,.nilsl,.nilsl,.nilsl] [(0,3,(.t 36))])),none,0⟩,
⟨(some 38),(.a (.box 105 (.t 37))),none,0⟩,
⟨(some 4),(.q (.mv (.t 38))),none,0⟩])
(.seq (.seq (.reg [⟨(some 39),(.q (.faddr 1 (.t 1))),none,0⟩,
⟨(some 40),(.q (.ld false 1 (.t 39))),none,0⟩,
⟨(some 41),(.q (.lenSl (.t 40))),none,0⟩,
⟨(some 42),(.q (.mv (.c (.int .i64 (.ofNat 0))))),none,0⟩])
(.block 0 (.loop (.seq (.reg [⟨(some 43),(.q (.bin .lss (.p .int) (.t 42) (.t 41))),none,0⟩])
(.seq (.cond (.t 43) .skip (.exit 0))
(.seq (.block 1 (.seq (.reg [⟨(some 44),(.q (.iaddr (.slice 6) (.t 40) (.t 42))),none,0⟩,
⟨(some 45),(.q (.ld true 6 (.t 44))),none,0⟩,
⟨(some 6),(.a (.alloc 51 [(.int .i64 (.ofNat 0)),(.int .i64 (.ofNat 0)),(.int .i64 (.ofNat 0)),.nilsl,.nilsl,.nilsl])),none,0⟩,
⟨none,(.x (.st 6 (.t 6) (.t 45))),none,0⟩])
(.seq (.reg [⟨(some 46),(.q (.mv (.t 4))),none,0⟩,
⟨(some 47),(.q (.ld true 6 (.t 6))),none,0⟩,
⟨(some 48),(.x (.call (.c (.fn 63 [] [])) [(.t 46),(.t 47)])),none,0⟩,
⟨(some 7),(.q (.mv (.t 48))),none,0⟩])
(.seq (.reg [⟨(some 49),(.q (.mv (.t 7))),none,0⟩,
⟨(some 50),(.q (.bin .neq (.p .int) (.t 49) (.c (.int .i64 (.ofNat 0))))),none,0⟩])
(.cond (.t 50) (.seq (.reg [⟨(some 51),(.q (.mv (.t 7))),none,0⟩,
⟨(some 2),(.q (.mv (.c .nilp))),none,0⟩,
⟨(some 3),(.q (.mv (.t 51))),none,0⟩])
.ret) .skip)))))
(.reg [⟨(some 52),(.q (.bin .add (.p .int) (.t 42) (.c (.int .i64 (.ofNat 1))))),none,0⟩,
⟨(some 42),(.q (.mv (.t 52))),none,0⟩])))))))
(.seq (.drw [⟨(some 53),(.q (.mv (.t 4))),none,0⟩,
⟨(some 54),(.q (.mv (.t 4))),none,0⟩,
⟨(some 55),(.q (.mv (.t 4))),none,0⟩,
⟨(some 56),(.q (.faddr 1 (.t 1))),none,0⟩,
⟨(some 57),(.q (.ld false 1 (.t 56))),none,8⟩,
⟨(some 58),(.q (.lenSl (.t 57))),none,24⟩,
⟨(some 59),(.a (.mkSlice 3 1 8 [(.int .i64 (.ofNat 0))] (.t 58) (.t 58))),none,56⟩,
⟨(some 60),(.q (.faddr 1 (.t 1))),none,0⟩,
⟨(some 61),(.q (.ld false 1 (.t 60))),none,128⟩,
⟨(some 62),(.q (.lenSl (.t 61))),none,384⟩,
⟨(some 63),(.a (.mkSlice 3 1 8 [(.int .i64 (.ofNat 0))] (.t 62) (.t 62))),none,896⟩,
⟨(some 64),(.q (.faddr 1 (.t 1))),none,0⟩,
⟨(some 65),(.q (.ld false 1 (.t 64))),none,2048⟩,
⟨(some 66),(.q (.lenSl (.t 65))),none,6144⟩,
⟨(some 67),(.a (.mkSlice 3 1 8 [(.int .i64 (.ofNat 0))] (.t 66) (.t 66))),none,14336⟩,
⟨(some 68),(.q (.nilchk (.t 53))),none,121⟩,
⟨(some 69),(.q (.faddr 3 (.t 68))),none,32889⟩,
⟨none,(.x (.st 1 (.t 69) (.t 59))),none,98425⟩,
⟨(some 70),(.q (.nilchk (.t 54))),none,231419⟩,
⟨(some 71),(.q (.faddr 4 (.t 70))),none,493563⟩,
⟨none,(.x (.st 1 (.t 71) (.t 63))),none,1017851⟩,
⟨(some 72),(.q (.nilchk (.t 55))),none,2097151⟩,
⟨(some 73),(.q (.faddr 5 (.t 72))),none,4194303⟩,
⟨none,(.x (.st 1 (.t 73) (.t 67))),none,8388607⟩])
(.seq (.seq (.reg [⟨(some 75),(.q (.mv (.t 4))),none,0⟩,
⟨(some 76),(.q (.faddr 1 (.t 1))),none,0⟩,
⟨(some 77),(.q (.ld false 1 (.t 76))),none,0⟩,
⟨(some 78),(.x (.call (.c (.fn 64 [] [])) [(.t 75),(.c (.int .i64 (.negSucc 0))),(.c (.int .i64 (.ofNat 0))),(.t 77)])),none,0⟩,
⟨(some 74),(.q (.mv (.t 78))),none,0⟩,
⟨(some 79),(.q (.extract (.t 74) 0)),none,0⟩,
⟨(some 80),(.q (.extract (.t 74) 1)),none,0⟩,
⟨(some 8),(.q (.mv (.t 79))),none,0⟩,
⟨(some 9),(.q (.mv (.t 80))),none,0⟩])
(.seq (.reg [⟨(some 81),(.q (.mv (.t 9))),none,0⟩,
⟨(some 82),(.q (.un .not (.t 81))),none,0⟩,
⟨(some 83),(.q (.mv (.t 82))),none,0⟩,
⟨(some 84),(.q (.mv (.t 8))),(some (83,false)),0⟩,
⟨(some 85),(.q (.lenSl (.t 84))),(some (83,false)),0⟩,
⟨(some 86),(.q (.bin .gtr (.p .int) (.t 85) (.c (.int .i64 (.ofNat 0))))),(some (83,false)),0⟩,
⟨(some 87),(.q (.pick (.t 83) (.c (.bool true)) (.t 86))),none,0⟩])
(.cond (.t 87) (.seq (.reg [⟨(some 2),(.q (.mv (.c .nilp))),none,0⟩,
⟨(some 3),(.q (.mv (.c (.int .i64 (.ofNat 9))))),none,0⟩])
.ret) .skip)))
(.seq (.seq (.reg [⟨(some 88),(.q (.mv (.t 4))),none,0⟩,
⟨(some 89),(.q (.nilchk (.t 88))),none,0⟩,
⟨(some 90),(.q (.faddr 4 (.t 89))),none,0⟩,
⟨(some 91),(.q (.ld false 1 (.t 90))),none,0⟩,
⟨(some 92),(.x (.call (.c (.fn 65 [] [])) [(.t 91)])),none,0⟩,
⟨(some 93),(.q (.bin .gtr (.p .int) (.t 92) (.c (.int .i64 (.ofNat 40))))),none,0⟩])
(.cond (.t 93) (.seq (.reg [⟨(some 2),(.q (.mv (.c .nilp))),none,0⟩,
⟨(some 3),(.q (.mv (.c (.int .i64 (.ofNat 5))))),none,0⟩])
.ret) .skip))
(.seq (.reg [⟨(some 94),(.q (.mv (.t 4))),none,0⟩,
⟨(some 95),(.q (.mv (.t 4))),none,0⟩,
⟨(some 96),(.x (.call (.c (.fn 66 [] [])) [(.t 95)])),none,0⟩,
⟨(some 2),(.q (.mv (.t 94))),none,0⟩,
⟨(some 3),(.q (.mv (.t 96))),none,0⟩])
.ret))))))))⟩
theorem row45 : Row Tryd.prog (45, a45) := ⟨Tryd.f45, Tryd.func45, by kernel_rfl⟩
noncomputable def a46 : AFn :=
⟨40,[(.t 5)],(.seq (.reg [⟨(some 5),(.q (.mv (.c (.int .i64 (.ofNat 0))))),none,0⟩])
(.seq (.seq (.reg [⟨(some 9),(.q (.ld false 1 (.t 1))),none,0⟩,
⟨(some 10),(.q (.mv (.t 0))),none,0⟩,
⟨(some 11),(.q (.iaddr (.slice 1) (.t 9) (.t 10))),none,0⟩,
⟨(some 12),(.q (.ld false 1 (.t 11))),none,0⟩,
⟨(some 13),(.q (.bin .lss (.p .int) (.t 12) (.c (.int .i64 (.ofNat 0))))),none,0⟩])
(.cond (.t 13) (.seq (.reg [⟨(some 6),(.q (.mv (.c (.int .i64 (.ofNat 0))))),none,0⟩])
(.seq (.seq (.reg [⟨(some 14),(.q (.faddr 1 (.t 2))),none,0⟩,
⟨(some 15),(.q (.ld false 1 (.t 14))),none,0⟩,
⟨(some 16),(.q (.mv (.t 0))),none,0⟩,
⟨(some 17),(.q (.iaddr (.slice 6) (.t 15) (.t 16))),none,0⟩,
⟨(some 18),(.q (.faddr 3 (.t 17))),none,0⟩,
⟨(some 19),(.q (.ld false 1 (.t 18))),none,0⟩,
⟨(some 20),(.q (.lenSl (.t 19))),none,0⟩,
⟨(some 21),(.q (.mv (.c (.int .i64 (.ofNat 0))))),none,0⟩])
(.block 0 (.loop (.seq (.reg [⟨(some 22),(.q (.bin .lss (.p .int) (.t 21) (.t 20))),none,0⟩])
(.seq (.cond (.t 22) .skip (.exit 0))
(.seq (.block 1 (.seq (.reg [⟨(some 23),(.q (.iaddr (.slice 1) (.t 19) (.t 21))),none,0⟩,
⟨(some 24),(.q (.ld false 1 (.t 23))),none,0⟩,
⟨(some 8),(.q (.mv (.t 24))),none,0⟩])
(.reg [⟨(some 25),(.q (.mv (.t 6))),none,0⟩,
⟨(some 26),(.q (.ld false 1 (.t 3))),none,0⟩,
⟨(some 27),(.q (.mv (.t 8))),none,0⟩,
⟨(some 28),(.x (.call (.t 26) [(.t 27)])),none,0⟩,
⟨(some 29),(.q (.bin .add (.p .int) (.t 28) (.c (.int .i64 (.ofNat 1))))),none,0⟩,
⟨(some 30),(.q (.minmax true [(.t 25),(.t 29)])),none,0⟩,
⟨(some 6),(.q (.mv (.t 30))),none,0⟩])))
(.reg [⟨(some 31),(.q (.bin .add (.p .int) (.t 21) (.c (.int .i64 (.ofNat 1))))),none,0⟩,
⟨(some 21),(.q (.mv (.t 31))),none,0⟩])))))))
(.reg [⟨(some 32),(.q (.ld false 1 (.t 1))),none,0⟩,
⟨(some 33),(.q (.mv (.t 0))),none,0⟩,
⟨(some 34),(.q (.mv (.t 6))),none,0⟩,
⟨(some 35),(.q (.iaddr (.slice 1) (.t 32) (.t 33))),none,0⟩,
⟨none,(.x (.st 1 (.t 35) (.t 34))),none,0⟩]))) .skip))
(.seq (.reg [⟨(some 36),(.q (.ld false 1 (.t 1))),none,0⟩,
⟨(some 37),(.q (.mv (.t 0))),none,0⟩,
⟨(some 38),(.q (.iaddr (.slice 1) (.t 36) (.t 37))),none,0⟩,
⟨(some 39),(.q (.ld false 1 (.t 38))),none,0⟩,
⟨(some 5),(.q (.mv (.t 39))),none,0⟩])
.ret)))⟩
theorem row46 : Row Tryd.prog (46, a46) := ⟨Tryd.f46, Tryd.func46, by kernel_rfl⟩
noncomputable def a50 : AFn :=
⟨36,[(.t 4)],(.seq (.reg [⟨(some 2),(.a (.box 51 (.t 0))),none,0⟩,
⟨(some 3),(.a (.box 28 (.t 1))),none,0⟩,
⟨(some 4),(.q (.mv (.c (.str [])))),none,0⟩])
(.seq (.reg [⟨(some 5),(.a (.alloc 111 [.nilsl])),none,0⟩])
(.seq (.reg [⟨(some 8),(.q (.mkFunc 67 [] [(.t 5)])),none,0⟩,
⟨(some 6),(.q (.mv (.t 8))),none,0⟩])
(.seq (.reg [⟨(some 7),(.q (.mv (.c (.fn 69 [] [])))),none,0⟩])
(.seq (.reg [⟨(some 9),(.q (.mv (.t 6))),none,0⟩,
⟨(some 10),(.q (.faddr 0 (.t 2))),none,0⟩,
⟨(some 11),(.q (.ld false 1 (.t 10))),none,0⟩,
⟨(some 12),(.q (.faddr 1 (.t 2))),none,0⟩,
⟨(some 13),(.q (.ld false 1 (.t 12))),none,0⟩,
⟨(some 14),(.q (.faddr 2 (.t 2))),none,0⟩,
⟨(some 15),(.q (.ld false 1 (.t 14))),none,0⟩,
⟨(some 16),(.a (.bslice 3 1 3 [(.int .i64 (.ofNat 0))] [(0,(.t 11)),(1,(.t 13)),(2,(.t 15))])),none,0⟩,
⟨(some 17),(.q (.mv (.t 7))),none,0⟩,
⟨(some 18),(.x (.call (.t 9) [(.t 16),(.t 17)])),none,0⟩])
(.seq (.reg [⟨(some 19),(.q (.mv (.t 6))),none,0⟩,
⟨(some 20),(.q (.faddr 4 (.t 2))),none,0⟩,
⟨(some 21),(.q (.ld false 1 (.t 20))),none,0⟩,
⟨(some 22),(.q (.mv (.t 7))),none,0⟩,
⟨(some 23),(.x (.call (.t 19) [(.t 21),(.t 22)])),none,0⟩])
(.seq (.reg [⟨(some 24),(.q (.mv (.t 6))),none,0⟩,
⟨(some 25),(.q (.faddr 5 (.t 2))),none,0⟩,
⟨(some 26),(.q (.ld false 1 (.t 25))),none,0⟩,
⟨(some 27),(.q (.mv (.t 7))),none,0⟩,
⟨(some 28),(.x (.call (.t 24) [(.t 26),(.t 27)])),none,0⟩])
(.seq (.reg [⟨(some 29),(.q (.mv (.t 6))),none,0⟩,
⟨(some 30),(.q (.faddr 3 (.t 2))),none,0⟩,
⟨(some 31),(.q (.ld false 1 (.t 30))),none,0⟩,
⟨(some 32),(.q (.mkFunc 70 [] [(.t 3)])),none,0⟩,
⟨(some 33),(.x (.call (.t 29) [(.t 31),(.t 32)])),none,0⟩])
(.seq (.reg [⟨(some 34),(.q (.ld false 1 (.t 5))),none,0⟩,
⟨(some 35),(.q (.conv .bytesToStr (.t 34))),none,0⟩,
⟨(some 4),(.q (.mv (.t 35))),none,0⟩])
.ret)))))))))⟩
theorem row50 : Row Tryd.prog (50, a50) := ⟨Tryd.f50, Tryd.func50, by kernel_rfl⟩
noncomputable def a51 : AFn :=
⟨14,[],(.seq (.reg [⟨(some 5),(.q (.mv (.t 0))),none,0⟩,
⟨(some 6),(.q (.lenSl (.t 5))),none,0⟩,
⟨(some 4),(.q (.mv (.t 6))),none,0⟩])
(.reg [⟨(some 7),(.q (.mv (.t 0))),none,0⟩,
⟨(some 8),(.q (.mv (.t 4))),none,0⟩,
⟨(some 9),(.q (.mv (.t 4))),none,0⟩,
⟨(some 10),(.q (.conv (.int .u64) (.t 9))),none,0⟩,
⟨(some 11),(.x (.call (.c (.fn 72 [] [])) [(.t 10)])),none,0⟩,
⟨(some 12),(.q (.mv (.t 1))),none,0⟩,
⟨(some 13),(.x (.call (.c (.fn 71 [] [])) [(.t 7),(.c (.int .i64 (.ofNat 0))),(.t 8),(.t 11),(.t 12)])),none,0⟩]))⟩
theorem row51 : Row Tryd.prog (51, a51) := ⟨Tryd.f51, Tryd.func51, by kernel_rfl⟩
noncomputable def a52 : AFn :=
⟨20,[(.t 5)],(.seq (.reg [⟨(some 5),(.q (.mv (.c (.int .i64 (.ofNat 0))))),none,0⟩])
(.seq (.drw [⟨(some 6),(.q (.ld false 1 (.t 2))),none,0⟩,
⟨(some 7),(.q (.mv (.t 1))),none,0⟩,
⟨(some 8),(.q (.iaddr (.slice 1) (.t 6) (.t 7))),none,3⟩,
⟨(some 9),(.q (.ld false 1 (.t 8))),none,7⟩,
⟨(some 10),(.q (.ld false 1 (.t 2))),none,0⟩,
⟨(some 11),(.q (.mv (.t 0))),none,0⟩,
⟨(some 12),(.q (.iaddr (.slice 1) (.t 10) (.t 11))),none,48⟩,
⟨(some 13),(.q (.ld false 1 (.t 12))),none,112⟩,
⟨(some 14),(.x (.call (.c (.fn 54 [] [])) [(.t 9),(.t 13)])),none,255⟩,
⟨(some 15),(.q (.mv (.t 0))),none,0⟩,
⟨(some 16),(.q (.mv (.t 1))),none,0⟩,
⟨(some 17),(.x (.call (.c (.fn 54 [] [])) [(.t 15),(.t 16)])),none,2047⟩,
⟨(some 18),(.a (.bslice 3 1 2 [(.int .i64 (.ofNat 0))] [(0,(.t 14)),(1,(.t 17))])),none,4095⟩,
⟨(some 19),(.x (.call (.c (.fn 53 [] [])) [(.t 18)])),none,8191⟩,
⟨(some 5),(.q (.mv (.t 19))),none,16383⟩])
.ret))⟩
theorem row52 : Row Tryd.prog (52, a52) := ⟨Tryd.f52, Tryd.func52, by kernel_rfl⟩
noncomputable def a53 : AFn :=
⟨18,[(.t 2)],(.seq (.reg [⟨(some 2),(.q (.mv (.c (.int .i64 (.ofNat 0))))),none,0⟩])
(.seq (.reg [⟨(some 3),(.q (.mv (.c (.int .i64 (.ofNat 0))))),none,0⟩])
(.seq (.seq (.reg [⟨(some 6),(.q (.mv (.t 0))),none,0⟩,
⟨(some 7),(.q (.lenSl (.t 6))),none,0⟩,
⟨(some 8),(.q (.mv (.c (.int .i64 (.ofNat 0))))),none,0⟩])
(.block 0 (.loop (.seq (.reg [⟨(some 9),(.q (.bin .lss (.p .int) (.t 8) (.t 7))),none,0⟩])
(.seq (.cond (.t 9) .skip (.exit 0))
(.seq (.block 1 (.seq (.reg [⟨(some 10),(.q (.iaddr (.slice 1) (.t 6) (.t 8))),none,0⟩,
⟨(some 11),(.q (.ld false 1 (.t 10))),none,0⟩,
⟨(some 5),(.q (.mv (.t 11))),none,0⟩])
(.seq (.reg [⟨(some 12),(.q (.mv (.t 5))),none,0⟩,
⟨(some 13),(.q (.mv (.t 3))),none,0⟩,
⟨(some 14),(.q (.bin .neq (.p .int) (.t 12) (.t 13))),none,0⟩])
(.cond (.t 14) (.seq (.reg [⟨(some 15),(.q (.mv (.t 5))),none,0⟩,
⟨(some 2),(.q (.mv (.t 15))),none,0⟩])
.ret) .skip))))
(.reg [⟨(some 16),(.q (.bin .add (.p .int) (.t 8) (.c (.int .i64 (.ofNat 1))))),none,0⟩,
⟨(some 8),(.q (.mv (.t 16))),none,0⟩])))))))
(.seq (.reg [⟨(some 17),(.q (.mv (.t 3))),none,0⟩,
⟨(some 2),(.q (.mv (.t 17))),none,0⟩])
.ret))))⟩
theorem row53 : Row Tryd.prog (53, a53) := ⟨Tryd.f53, Tryd.func53, by kernel_rfl⟩
noncomputable def a54 : AFn :=
⟨20,[(.t 4)],(.seq (.reg [⟨(some 4),(.q (.mv (.c (.int .i64 (.ofNat 0))))),none,0⟩])
(.seq (.reg [⟨(some 7),(.q (.mv (.t 0))),none,0⟩,
⟨(some 8),(.x (.call (.c (.fn 73 [] [])) [(.t 7)])),none,0⟩,
⟨(some 5),(.q (.mv (.t 8))),none,0⟩])
(.seq (.reg [⟨(some 9),(.q (.mv (.t 1))),none,0⟩,
⟨(some 10),(.x (.call (.c (.fn 73 [] [])) [(.t 9)])),none,0⟩,
⟨(some 6),(.q (.mv (.t 10))),none,0⟩])
(.seq (.seq (.reg [⟨(some 11),(.q (.mv (.t 5))),none,0⟩])
(.cond (.t 11) (.seq (.seq (.reg [⟨(some 12),(.q (.mv (.t 6))),none,0⟩])
(.cond (.t 12) (.seq (.reg [⟨(some 4),(.q (.mv (.c (.int .i64 (.ofNat 0))))),none,0⟩])
.ret) .skip))
(.seq (.reg [⟨(some 4),(.q (.mv (.c (.int .i64 (.negSucc 0))))),none,0⟩])
.ret)) .skip))
(.seq (.seq (.reg [⟨(some 13),(.q (.mv (.t 6))),none,0⟩])
(.cond (.t 13) (.seq (.reg [⟨(some 4),(.q (.mv (.c (.int .i64 (.ofNat 1))))),none,0⟩])
.ret) .skip))
(.seq (.seq (.reg [⟨(some 14),(.q (.mv (.t 0))),none,0⟩,
⟨(some 15),(.q (.mv (.t 1))),none,0⟩,
⟨(some 16),(.q (.bin .lss (.p .int) (.t 14) (.t 15))),none,0⟩])
(.cond (.t 16) (.seq (.reg [⟨(some 4),(.q (.mv (.c (.int .i64 (.negSucc 0))))),none,0⟩])
.ret) .skip))
(.seq (.seq (.reg [⟨(some 17),(.q (.mv (.t 0))),none,0⟩,
⟨(some 18),(.q (.mv (.t 1))),none,0⟩,
⟨(some 19),(.q (.bin .gtr (.p .int) (.t 17) (.t 18))),none,0⟩])
(.cond (.t 19) (.seq (.reg [⟨(some 4),(.q (.mv (.c (.int .i64 (.ofNat 1))))),none,0⟩])
.ret) .skip))
(.seq (.reg [⟨(some 4),(.q (.mv (.c (.int .i64 (.ofNat 0))))),none,0⟩])
.ret))))))))⟩
theorem row54 : Row Tryd.prog (54, a54) := ⟨Tryd.f54, Tryd.func54, by kernel_rfl⟩
noncomputable def a56 : AFn :=
⟨8,[(.t 2)],(.seq (.reg [⟨(some 2),(.q (.mv (.c .nilsl))),none,0⟩])
(.seq (.seq (.reg [⟨(some 3),(.q (.mv (.t 0))),none,0⟩,
⟨(some 4),(.q (.bin .eql (.p .slice) (.t 3) (.c .nilsl))),none,0⟩])
(.cond (.t 4) (.seq (.reg [⟨(some 2),(.q (.mv (.c .nilsl))),none,0⟩])
.ret) .skip))
(.seq (.reg [⟨(some 5),(.a (.bslice 61 2 0 [(.int .i64 (.ofNat 0)),(.int .i64 (.ofNat 0))] [])),none,0⟩,
⟨(some 6),(.q (.mv (.t 0))),none,0⟩,
⟨(some 7),(.x (.app 61 2 16 (.t 5) (.t 6))),none,0⟩,
⟨(some 2),(.q (.mv (.t 7))),none,0⟩])
.ret)))⟩
theorem row56 : Row Tryd.prog (56, a56) := ⟨Tryd.f56, Tryd.func56, by kernel_rfl⟩
noncomputable def a60 : AFn :=
⟨9,[(.t 4)],(.seq (.reg [⟨(some 4),(.q (.mv (.c (.bool false)))),none,0⟩])
(.seq (.reg [⟨(some 5),(.q (.mv (.t 0))),none,0⟩,
⟨(some 6),(.q (.mv (.t 1))),none,0⟩,
⟨(some 7),(.x (.call (.c (.fn 75 [] [])) [(.t 5),(.t 6)])),none,0⟩,
⟨(some 8),(.q (.bin .geq (.p .int) (.t 7) (.c (.int .i64 (.ofNat 0))))),none,0⟩,
⟨(some 4),(.q (.mv (.t 8))),none,0⟩])
.ret))⟩
theorem row60 : Row Tryd.prog (60, a60) := ⟨Tryd.f60, Tryd.func60, by kernel_rfl⟩
noncomputable def a61 : AFn :=
⟨4,[(.t 2)],(.seq (.reg [⟨(some 1),(.a (.box 32 (.t 0))),none,0⟩,
⟨(some 2),(.q (.mv (.c .nilfn))),none,0⟩])
(.seq (.reg [⟨(some 3),(.q (.mkFunc 76 [] [(.t 1)])),none,0⟩,
⟨(some 2),(.q (.mv (.t 3))),none,0⟩])
.ret))⟩
theorem row61 : Row Tryd.prog (61, a61) := ⟨Tryd.f61, Tryd.func61, by kernel_rfl⟩
noncomputable def a62 : AFn :=
⟨26,[(.t 4)],(.seq (.reg [⟨(some 4),(.q (.mv (.c (.bool false)))),none,0⟩])
(.seq (.seq (.reg [⟨(some 6),(.q (.mv (.t 0))),none,0⟩,
⟨(some 7),(.q (.lenSl (.t 6))),none,0⟩,
⟨(some 8),(.q (.mv (.t 1))),none,0⟩,
⟨(some 9),(.q (.lenSl (.t 8))),none,0⟩,
⟨(some 10),(.q (.bin .neq (.p .int) (.t 7) (.t 9))),none,0⟩])
(.cond (.t 10) (.seq (.reg [⟨(some 4),(.q (.mv (.c (.bool false)))),none,0⟩])
.ret) .skip))
(.seq (.seq (.reg [⟨(some 11),(.q (.mv (.t 0))),none,0⟩,
⟨(some 12),(.q (.lenSl (.t 11))),none,0⟩,
⟨(some 13),(.q (.mv (.c (.int .i64 (.ofNat 0))))),none,0⟩])
(.block 0 (.loop (.seq (.reg [⟨(some 14),(.q (.bin .lss (.p .int) (.t 13) (.t 12))),none,0⟩])
(.seq (.cond (.t 14) .skip (.exit 0))
(.seq (.block 1 (.seq (.reg [⟨(some 15),(.q (.mv (.t 13))),none,0⟩,
⟨(some 5),(.q (.mv (.t 15))),none,0⟩])
(.seq (.drw [⟨(some 16),(.q (.mv (.t 0))),none,0⟩,
⟨(some 17),(.q (.mv (.t 5))),none,0⟩,
⟨(some 18),(.q (.iaddr (.slice 1) (.t 16) (.t 17))),none,3⟩,
⟨(some 19),(.q (.ld false 1 (.t 18))),none,7⟩,
⟨(some 20),(.q (.mv (.t 1))),none,0⟩,
⟨(some 21),(.q (.mv (.t 5))),none,0⟩,
⟨(some 22),(.q (.iaddr (.slice 1) (.t 20) (.t 21))),none,48⟩,
⟨(some 23),(.q (.ld false 1 (.t 22))),none,112⟩,
⟨(some 24),(.q (.bin .neq (.p .int) (.t 19) (.t 23))),none,255⟩])
(.cond (.t 24) (.seq (.reg [⟨(some 4),(.q (.mv (.c (.bool false)))),none,0⟩])
.ret) .skip))))
(.reg [⟨(some 25),(.q (.bin .add (.p .int) (.t 13) (.c (.int .i64 (.ofNat 1))))),none,0⟩,
⟨(some 13),(.q (.mv (.t 25))),none,0⟩])))))))
(.seq (.reg [⟨(some 4),(.q (.mv (.c (.bool true)))),none,0⟩])
.ret))))⟩
theorem row62 : Row Tryd.prog (62, a62) := ⟨Tryd.f62, Tryd.func62, by kernel_rfl⟩
noncomputable def a63 : AFn :=
⟨22,[(.t 4)],(.seq (.reg [⟨(some 3),(.a (.box 51 (.t 1))),none,0⟩,
⟨(some 4),(.q (.mv (.c (.int .i64 (.ofNat 0))))),none,0⟩])
(.seq (.reg [⟨(some 6),(.q (.build [.nilfn,.nilfn,.nilfn,.nilfn] [(1,1,(.c (.fn 78 [] []))),(2,1,(.c (.fn 79 [] []))),(3,1,(.c (.fn 80 [] [])))])),none,0⟩,
⟨(some 5),(.a (.alloc 124 [.nilfn,.nilfn,.nilfn,.nilfn])),none,0⟩,
⟨none,(.x (.st 4 (.t 5) (.t 6))),none,0⟩])
(.seq (.seq (.reg [⟨(some 7),(.q (.faddr 0 (.t 3))),none,0⟩,
⟨(some 8),(.q (.ld false 1 (.t 7))),none,0⟩,
⟨(some 9),(.q (.bin .lss (.p .int) (.t 8) (.c (.int .i64 (.ofNat 1))))),none,0⟩,
⟨(some 10),(.q (.mv (.t 9))),none,0⟩,
⟨(some 11),(.q (.faddr 0 (.t 3))),(some (10,false)),0⟩,
⟨(some 12),(.q (.ld false 1 (.t 11))),(some (10,false)),0⟩,
⟨(some 13),(.q (.bin .gtr (.p .int) (.t 12) (.c (.int .i64 (.ofNat 3))))),(some (10,false)),0⟩,
⟨(some 14),(.q (.pick (.t 10) (.c (.bool true)) (.t 13))),none,0⟩])
(.cond (.t 14) (.seq (.reg [⟨(some 4),(.q (.mv (.c (.int .i64 (.ofNat 3))))),none,0⟩])
.ret) .skip))
(.seq (.drw [⟨(some 15),(.q (.faddr 0 (.t 3))),none,0⟩,
⟨(some 16),(.q (.ld false 1 (.t 15))),none,1⟩,
⟨(some 17),(.q (.iaddr (.arr 4 1) (.t 5) (.t 16))),none,3⟩,
⟨(some 18),(.q (.ld false 1 (.t 17))),none,7⟩,
⟨(some 19),(.q (.mv (.t 0))),none,0⟩,
⟨(some 20),(.q (.ld true 6 (.t 3))),none,0⟩,
⟨(some 21),(.x (.call (.t 18) [(.t 19),(.t 20)])),none,63⟩,
⟨(some 4),(.q (.mv (.t 21))),none,127⟩])
.ret))))⟩
theorem row63 : Row Tryd.prog (63, a63) := ⟨Tryd.f63, Tryd.func63, by kernel_rfl⟩
noncomputable def a64 : AFn :=
⟨92,[(.t 8),(.t 9)],(.seq (.reg [⟨(some 8),(.q (.mv (.c .nilsl))),none,0⟩,
⟨(some 9),(.q (.mv (.c (.bool false)))),none,0⟩])
(.seq (.seq (.reg [⟨(some 15),(.q (.mv (.t 3))),none,0⟩,
⟨(some 16),(.q (.lenSl (.t 15))),none,0⟩,
⟨(some 17),(.q (.bin .eql (.p .int) (.t 16) (.c (.int .i64 (.ofNat 0))))),none,0⟩])
(.cond (.t 17) (.seq (.reg [⟨(some 8),(.q (.mv (.c .nilsl))),none,0⟩,
⟨(some 9),(.q (.mv (.c (.bool false)))),none,0⟩])
.ret) .skip))
(.seq (.reg [⟨(some 18),(.q (.mv (.t 0))),none,0⟩,
⟨(some 19),(.q (.nilchk (.t 18))),none,0⟩,
⟨(some 20),(.q (.faddr 0 (.t 19))),none,0⟩,
⟨(some 21),(.q (.faddr 1 (.t 20))),none,0⟩,
⟨(some 22),(.q (.ld false 1 (.t 21))),none,0⟩,
⟨(some 23),(.q (.lenSl (.t 22))),none,0⟩,
⟨(some 24),(.q (.mv (.t 3))),none,0⟩,
⟨(some 25),(.q (.lenSl (.t 24))),none,0⟩,
⟨(some 26),(.q (.bin .sub (.p .int) (.t 23) (.t 25))),none,0⟩,
⟨(some 10),(.q (.mv (.t 26))),none,0⟩])
(.seq (.drw [⟨(some 27),(.q (.mv (.t 0))),none,0⟩,
⟨(some 28),(.q (.nilchk (.t 27))),none,1⟩,
⟨(some 29),(.q (.faddr 3 (.t 28))),none,3⟩,
⟨(some 30),(.q (.ld false 1 (.t 29))),none,7⟩,
⟨(some 31),(.q (.mv (.t 10))),none,0⟩,
⟨(some 32),(.q (.mv (.t 0))),none,0⟩,
⟨(some 33),(.q (.nilchk (.t 32))),none,32⟩,
⟨(some 34),(.q (.faddr 4 (.t 33))),none,96⟩,
⟨(some 35),(.q (.ld false 1 (.t 34))),none,224⟩,
⟨(some 36),(.q (.mv (.t 10))),none,0⟩,
⟨(some 37),(.q (.mv (.t 1))),none,0⟩,
⟨(some 38),(.q (.mv (.t 2))),none,0⟩,
⟨(some 39),(.q (.iaddr (.slice 1) (.t 30) (.t 31))),none,1535⟩,
⟨none,(.x (.st 1 (.t 39) (.t 37))),none,5631⟩,
⟨(some 40),(.q (.iaddr (.slice 1) (.t 35) (.t 36))),none,16383⟩,
⟨none,(.x (.st 1 (.t 40) (.t 38))),none,32767⟩])
(.seq (.reg [⟨(some 41),(.q (.mv (.t 3))),none,0⟩,
⟨(some 42),(.q (.slc (.slice 6) (.t 41) (some (.c (.int .i64 (.ofNat 1)))) none none)),none,0⟩,
⟨(some 11),(.q (.mv (.t 42))),none,0⟩,
⟨(some 12),(.q (.mv (.c (.bool true)))),none,0⟩])
(.seq (.seq (.reg [⟨(some 43),(.q (.mv (.t 3))),none,0⟩,
⟨(some 44),(.q (.iaddr (.slice 6) (.t 43) (.c (.int .i64 (.ofNat 0))))),none,0⟩,
⟨(some 45),(.q (.faddr 3 (.t 44))),none,0⟩,
⟨(some 46),(.q (.ld false 1 (.t 45))),none,0⟩,
⟨(some 47),(.q (.lenSl (.t 46))),none,0⟩,
⟨(some 48),(.q (.mv (.c (.int .i64 (.ofNat 0))))),none,0⟩])
(.block 0 (.loop (.seq (.reg [⟨(some 49),(.q (.bin .lss (.p .int) (.t 48) (.t 47))),none,0⟩])
(.seq (.cond (.t 49) .skip (.exit 0))
(.seq (.block 1 (.seq (.reg [⟨(some 50),(.q (.iaddr (.slice 1) (.t 46) (.t 48))),none,0⟩,
⟨(some 51),(.q (.ld false 1 (.t 50))),none,0⟩,
⟨(some 14),(.q (.mv (.t 51))),none,0⟩])
(.seq (.seq (.reg [⟨(some 52),(.q (.mv (.t 14))),none,0⟩,
⟨(some 53),(.q (.mv (.t 0))),none,0⟩,
⟨(some 54),(.q (.nilchk (.t 53))),none,0⟩,
⟨(some 55),(.q (.faddr 0 (.t 54))),none,0⟩,
⟨(some 56),(.q (.faddr 1 (.t 55))),none,0⟩,
⟨(some 57),(.q (.ld false 1 (.t 56))),none,0⟩,
⟨(some 58),(.q (.lenSl (.t 57))),none,0⟩,
⟨(some 59),(.q (.mv (.t 11))),none,0⟩,
⟨(some 60),(.q (.lenSl (.t 59))),none,0⟩,
⟨(some 61),(.q (.bin .sub (.p .int) (.t 58) (.t 60))),none,0⟩,
⟨(some 62),(.q (.bin .neq (.p .int) (.t 52) (.t 61))),none,0⟩])
(.cond (.t 62) (.seq (.reg [⟨(some 8),(.q (.mv (.c .nilsl))),none,0⟩,
⟨(some 9),(.q (.mv (.c (.bool false)))),none,0⟩])
.ret) .skip))
(.seq (.reg [⟨(some 64),(.q (.mv (.t 0))),none,0⟩,
⟨(some 65),(.q (.mv (.t 10))),none,0⟩,
⟨(some 66),(.q (.mv (.t 2))),none,0⟩,
⟨(some 67),(.q (.bin .add (.p .int) (.t 66) (.c (.int .i64 (.ofNat 1))))),none,0⟩,
⟨(some 68),(.q (.mv (.t 11))),none,0⟩,
⟨(some 69),(.x (.call (.c (.fn 64 [] [])) [(.t 64),(.t 65),(.t 67),(.t 68)])),none,0⟩,
⟨(some 63),(.q (.mv (.t 69))),none,0⟩,
⟨(some 70),(.q (.extract (.t 63) 0)),none,0⟩,
⟨(some 71),(.q (.extract (.t 63) 1)),none,0⟩,
⟨(some 11),(.q (.mv (.t 70))),none,0⟩,
⟨(some 12),(.q (.mv (.t 71))),none,0⟩])
(.seq (.reg [⟨(some 72),(.q (.mv (.t 12))),none,0⟩,
⟨(some 73),(.q (.un .not (.t 72))),none,0⟩])
(.cond (.t 73) (.seq (.reg [⟨(some 8),(.q (.mv (.c .nilsl))),none,0⟩,
⟨(some 9),(.q (.mv (.c (.bool false)))),none,0⟩])
.ret) .skip))))))
(.reg [⟨(some 74),(.q (.bin .add (.p .int) (.t 48) (.c (.int .i64 (.ofNat 1))))),none,0⟩,
⟨(some 48),(.q (.mv (.t 74))),none,0⟩])))))))
(.seq (.drw [⟨(some 75),(.q (.mv (.t 0))),none,0⟩,
⟨(some 76),(.q (.nilchk (.t 75))),none,1⟩,
⟨(some 77),(.q (.faddr 5 (.t 76))),none,3⟩,
⟨(some 78),(.q (.ld false 1 (.t 77))),none,7⟩,
⟨(some 79),(.q (.mv (.t 10))),none,0⟩,
⟨(some 80),(.q (.mv (.t 0))),none,0⟩,
⟨(some 81),(.q (.nilchk (.t 80))),none,32⟩,
⟨(some 82),(.q (.faddr 0 (.t 81))),none,96⟩,
⟨(some 83),(.q (.faddr 1 (.t 82))),none,224⟩,
⟨(some 84),(.q (.ld false 1 (.t 83))),none,480⟩,
⟨(some 85),(.q (.lenSl (.t 84))),none,992⟩,
⟨(some 86),(.q (.mv (.t 11))),none,0⟩,
⟨(some 87),(.q (.lenSl (.t 86))),none,2048⟩,
⟨(some 88),(.q (.bin .sub (.p .int) (.t 85) (.t 87))),none,8160⟩,
⟨(some 89),(.q (.bin .sub (.p .int) (.t 88) (.c (.int .i64 (.ofNat 1))))),none,16352⟩,
⟨(some 90),(.q (.iaddr (.slice 1) (.t 78) (.t 79))),none,32767⟩,
⟨none,(.x (.st 1 (.t 90) (.t 89))),none,65535⟩])
(.seq (.reg [⟨(some 91),(.q (.mv (.t 11))),none,0⟩,
⟨(some 8),(.q (.mv (.t 91))),none,0⟩,
⟨(some 9),(.q (.mv (.c (.bool true)))),none,0⟩])
.ret))))))))⟩
theorem row64 : Row Tryd.prog (64, a64) := ⟨Tryd.f64, Tryd.func64, by kernel_rfl⟩
noncomputable def a65 : AFn :=
⟨25,[(.t 2)],(.seq (.reg [⟨(some 2),(.q (.mv (.c (.int .i64 (.ofNat 0))))),none,0⟩])
(.seq (.seq (.reg [⟨(some 5),(.q (.mv (.t 0))),none,0⟩,
⟨(some 6),(.q (.lenSl (.t 5))),none,0⟩,
⟨(some 7),(.q (.bin .lss (.p .int) (.t 6) (.c (.int .i64 (.ofNat 1))))),none,0⟩])
(.cond (.t 7) (.reg [⟨(some 8),(.q (.mkIface 9 (.c (.str [115,108,105,99,101,115,46,77,97,120,58,32,101,109,112,116,121,32,108,105,115,116])))),none,0⟩,
⟨none,(.x (.bad)),none,0⟩]) .skip))
(.seq (.reg [⟨(some 9),(.q (.mv (.t 0))),none,0⟩,
⟨(some 10),(.q (.iaddr (.slice 1) (.t 9) (.c (.int .i64 (.ofNat 0))))),none,0⟩,
⟨(some 11),(.q (.ld false 1 (.t 10))),none,0⟩,
⟨(some 3),(.q (.mv (.t 11))),none,0⟩])
(.seq (.seq (.reg [⟨(some 4),(.q (.mv (.c (.int .i64 (.ofNat 1))))),none,0⟩])
(.block 0 (.loop (.seq (.seq (.reg [⟨(some 12),(.q (.mv (.t 4))),none,0⟩,
⟨(some 13),(.q (.mv (.t 0))),none,0⟩,
⟨(some 14),(.q (.lenSl (.t 13))),none,0⟩,
⟨(some 15),(.q (.bin .lss (.p .int) (.t 12) (.t 14))),none,0⟩])
(.cond (.t 15) .skip (.exit 0)))
(.seq (.block 1 (.reg [⟨(some 18),(.q (.mv (.t 3))),none,0⟩,
⟨(some 19),(.q (.mv (.t 0))),none,0⟩,
⟨(some 20),(.q (.mv (.t 4))),none,0⟩,
⟨(some 21),(.q (.iaddr (.slice 1) (.t 19) (.t 20))),none,0⟩,
⟨(some 22),(.q (.ld false 1 (.t 21))),none,0⟩,
⟨(some 23),(.q (.minmax true [(.t 18),(.t 22)])),none,0⟩,
⟨(some 3),(.q (.mv (.t 23))),none,0⟩]))
(.reg [⟨(some 16),(.q (.mv (.t 4))),none,0⟩,
⟨(some 17),(.q (.bin .add (.p .int) (.t 16) (.c (.int .i64 (.ofNat 1))))),none,0⟩,
⟨(some 4),(.q (.mv (.t 17))),none,0⟩]))))))
(.seq (.reg [⟨(some 24),(.q (.mv (.t 3))),none,0⟩,
⟨(some 2),(.q (.mv (.t 24))),none,0⟩])
.ret)))))⟩
theorem row65 : Row Tryd.prog (65, a65) := ⟨Tryd.f65, Tryd.func65, by kernel_rfl⟩
noncomputable def a66 : AFn :=
⟨80,[(.t 2)],(.seq (.reg [⟨(some 2),(.q (.mv (.c (.int .i64 (.ofNat 0))))),none,0⟩])
(.seq (.reg [⟨(some 8),(.q (.mv (.t 0))),none,0⟩,
⟨(some 9),(.q (.nilchk (.t 8))),none,0⟩,
⟨(some 10),(.q (.faddr 0 (.t 9))),none,0⟩,
⟨(some 11),(.q (.faddr 2 (.t 10))),none,0⟩,
⟨(some 12),(.q (.ld false 1 (.t 11))),none,0⟩,
⟨(some 13),(.q (.lenSl (.t 12))),none,0⟩,
⟨(some 14),(.a (.mkSlice 3 1 8 [(.int .i64 (.ofNat 0))] (.t 13) (.t 13))),none,0⟩,
⟨(some 3),(.q (.mv (.t 14))),none,0⟩])
(.seq (.seq (.reg [⟨(some 15),(.q (.mv (.t 0))),none,0⟩,
⟨(some 16),(.q (.nilchk (.t 15))),none,0⟩,
⟨(some 17),(.q (.faddr 0 (.t 16))),none,0⟩,
⟨(some 18),(.q (.faddr 1 (.t 17))),none,0⟩,
⟨(some 19),(.q (.ld false 1 (.t 18))),none,0⟩,
⟨(some 20),(.q (.lenSl (.t 19))),none,0⟩,
⟨(some 21),(.q (.bin .sub (.p .int) (.t 20) (.c (.int .i64 (.ofNat 1))))),none,0⟩,
⟨(some 4),(.q (.mv (.t 21))),none,0⟩])
(.block 0 (.loop (.seq (.seq (.reg [⟨(some 22),(.q (.mv (.t 4))),none,0⟩,
⟨(some 23),(.q (.bin .geq (.p .int) (.t 22) (.c (.int .i64 (.ofNat 0))))),none,0⟩])
(.cond (.t 23) .skip (.exit 0)))
(.seq (.block 1 (.seq (.reg [⟨(some 26),(.q (.mv (.t 0))),none,0⟩,
⟨(some 27),(.q (.nilchk (.t 26))),none,0⟩,
⟨(some 28),(.q (.faddr 0 (.t 27))),none,0⟩,
⟨(some 29),(.q (.faddr 1 (.t 28))),none,0⟩,
⟨(some 30),(.q (.ld false 1 (.t 29))),none,0⟩,
⟨(some 31),(.q (.mv (.t 4))),none,0⟩,
⟨(some 32),(.q (.iaddr (.slice 6) (.t 30) (.t 31))),none,0⟩,
⟨(some 33),(.q (.ld true 6 (.t 32))),none,0⟩,
⟨(some 5),(.a (.alloc 51 [(.int .i64 (.ofNat 0)),(.int .i64 (.ofNat 0)),(.int .i64 (.ofNat 0)),.nilsl,.nilsl,.nilsl])),none,0⟩,
⟨none,(.x (.st 6 (.t 5) (.t 33))),none,0⟩])
(.seq (.reg [⟨(some 34),(.q (.faddr 0 (.t 5))),none,0⟩,
⟨(some 35),(.q (.ld false 1 (.t 34))),none,0⟩,
⟨(some 36),(.q (.bin .eql (.p .int) (.t 35) (.c (.int .i64 (.ofNat 2))))),none,0⟩])
(.cond (.t 36) (.reg [⟨(some 37),(.q (.mv (.t 3))),none,0⟩,
⟨(some 38),(.q (.faddr 2 (.t 5))),none,0⟩,
⟨(some 39),(.q (.ld false 1 (.t 38))),none,0⟩,
⟨(some 40),(.q (.mv (.t 4))),none,0⟩,
⟨(some 41),(.q (.bin .add (.p .int) (.t 40) (.c (.int .i64 (.ofNat 1))))),none,0⟩,
⟨(some 42),(.q (.iaddr (.slice 1) (.t 37) (.t 39))),none,0⟩,
⟨none,(.x (.st 1 (.t 42) (.t 41))),none,0⟩]) .skip))))
(.reg [⟨(some 24),(.q (.mv (.t 4))),none,0⟩,
⟨(some 25),(.q (.bin .sub (.p .int) (.t 24) (.c (.int .i64 (.ofNat 1))))),none,0⟩,
⟨(some 4),(.q (.mv (.t 25))),none,0⟩]))))))
(.seq (.seq (.reg [⟨(some 43),(.q (.mv (.t 0))),none,0⟩,
⟨(some 44),(.q (.nilchk (.t 43))),none,0⟩,
⟨(some 45),(.q (.faddr 0 (.t 44))),none,0⟩,
⟨(some 46),(.q (.faddr 1 (.t 45))),none,0⟩,
⟨(some 47),(.q (.ld false 1 (.t 46))),none,0⟩,
⟨(some 48),(.q (.lenSl (.t 47))),none,0⟩,
⟨(some 49),(.q (.mv (.c (.int .i64 (.ofNat 0))))),none,0⟩])
(.block 2 (.loop (.seq (.reg [⟨(some 50),(.q (.bin .lss (.p .int) (.t 49) (.t 48))),none,0⟩])
(.seq (.cond (.t 50) .skip (.exit 2))
(.seq (.block 3 (.seq (.reg [⟨(some 51),(.q (.iaddr (.slice 6) (.t 47) (.t 49))),none,0⟩,
⟨(some 52),(.q (.ld true 6 (.t 51))),none,0⟩,
⟨(some 7),(.a (.alloc 51 [(.int .i64 (.ofNat 0)),(.int .i64 (.ofNat 0)),(.int .i64 (.ofNat 0)),.nilsl,.nilsl,.nilsl])),none,0⟩,
⟨none,(.x (.st 6 (.t 7) (.t 52))),none,0⟩])
(.seq (.drw [⟨(some 53),(.q (.faddr 0 (.t 7))),none,0⟩,
⟨(some 54),(.q (.ld false 1 (.t 53))),none,1⟩,
⟨(some 55),(.q (.bin .eql (.p .int) (.t 54) (.c (.int .i64 (.ofNat 2))))),none,3⟩,
⟨(some 56),(.q (.mv (.t 55))),none,7⟩,
⟨(some 57),(.q (.mv (.t 0))),(some (56,true)),15⟩,
⟨(some 58),(.q (.nilchk (.t 57))),(some (56,true)),31⟩,
⟨(some 59),(.q (.faddr 0 (.t 58))),(some (56,true)),63⟩,
⟨(some 60),(.q (.faddr 2 (.t 59))),(some (56,true)),127⟩,
⟨(some 61),(.q (.ld false 1 (.t 60))),(some (56,true)),255⟩,
⟨(some 62),(.q (.faddr 2 (.t 7))),(some (56,true)),15⟩,
⟨(some 63),(.q (.ld false 1 (.t 62))),(some (56,true)),527⟩,
⟨(some 64),(.q (.iaddr (.slice 2) (.t 61) (.t 63))),(some (56,true)),2047⟩,
⟨(some 65),(.q (.ld true 2 (.t 64))),(some (56,true)),4095⟩,
⟨(some 66),(.q (.faddr 1 (.t 7))),(some (56,true)),15⟩,
⟨(some 67),(.q (.ld false 1 (.t 66))),(some (56,true)),8207⟩,
⟨(some 68),(.q (.faddr 3 (.t 7))),(some (56,true)),15⟩,
⟨(some 69),(.q (.ld false 1 (.t 68))),(some (56,true)),32783⟩,
⟨(some 70),(.q (.lenSl (.t 69))),(some (56,true)),98319⟩,
⟨(some 71),(.q (.build [(.int .i64 (.ofNat 0)),(.int .i64 (.ofNat 0))] [(0,1,(.t 67)),(1,1,(.t 70))])),(some (56,true)),253967⟩,
⟨(some 72),(.q (.bin .neq (.struct [(0,.int),(1,.int)]) (.t 65) (.t 71))),(some (56,true)),524287⟩,
⟨(some 73),(.q (.pick (.t 56) (.t 72) (.c (.bool false)))),none,1048575⟩])
(.cond (.t 73) (.seq (.reg [⟨(some 2),(.q (.mv (.c (.int .i64 (.ofNat 10))))),none,0⟩])
.ret) .skip))))
(.reg [⟨(some 74),(.q (.bin .add (.p .int) (.t 49) (.c (.int .i64 (.ofNat 1))))),none,0⟩,
⟨(some 49),(.q (.mv (.t 74))),none,0⟩])))))))
(.seq (.seq (.reg [⟨(some 75),(.q (.mv (.t 3))),none,0⟩,
⟨(some 76),(.x (.call (.c (.fn 81 [] [])) [(.t 75),(.c (.int .i64 (.ofNat 0)))])),none,0⟩])
(.cond (.t 76) (.seq (.reg [⟨(some 2),(.q (.mv (.c (.int .i64 (.ofNat 18))))),none,0⟩])
.ret) .skip))
(.seq (.seq (.reg [⟨(some 77),(.q (.mv (.t 3))),none,0⟩,
⟨(some 78),(.x (.call (.c (.fn 82 [] [])) [(.t 77)])),none,0⟩,
⟨(some 79),(.q (.un .not (.t 78))),none,0⟩])
(.cond (.t 79) (.seq (.reg [⟨(some 2),(.q (.mv (.c (.int .i64 (.ofNat 9))))),none,0⟩])
.ret) .skip))
(.seq (.reg [⟨(some 2),(.q (.mv (.c (.int .i64 (.ofNat 0))))),none,0⟩])
.ret)))))))⟩
theorem row66 : Row Tryd.prog (66, a66) := ⟨Tryd.f66, Tryd.func66, by kernel_rfl⟩
noncomputable def a67 : AFn :=
⟨25,[],(.seq (.seq (.reg [⟨(some 7),(.q (.mv (.t 0))),none,0⟩,
⟨(some 8),(.q (.lenSl (.t 7))),none,0⟩,
⟨(some 9),(.q (.mv (.c (.int .i64 (.ofNat 0))))),none,0⟩])
(.block 0 (.loop (.seq (.reg [⟨(some 10),(.q (.bin .lss (.p .int) (.t 9) (.t 8))),none,0⟩])
(.seq (.cond (.t 10) .skip (.exit 0))
(.seq (.block 1 (.seq (.reg [⟨(some 11),(.q (.iaddr (.slice 1) (.t 7) (.t 9))),none,0⟩,
⟨(some 12),(.q (.ld false 1 (.t 11))),none,0⟩,
⟨(some 6),(.q (.mv (.t 12))),none,0⟩])
(.seq (.drw [⟨(some 13),(.q (.ld false 1 (.t 2))),none,0⟩,
⟨(some 14),(.q (.mv (.t 1))),none,0⟩,
⟨(some 15),(.q (.mv (.t 6))),none,0⟩,
⟨(some 16),(.x (.call (.t 14) [(.t 15)])),none,6⟩,
⟨(some 17),(.x (.call (.c (.fn 68 [] [])) [(.t 13),(.t 16),(.c (.int .i64 (.ofNat 10)))])),none,15⟩,
⟨none,(.x (.st 1 (.t 2) (.t 17))),none,31⟩])
(.reg [⟨(some 18),(.q (.ld false 1 (.t 2))),none,0⟩,
⟨(some 19),(.a (.bslice 5 1 1 [(.int .u8 (.ofNat 0))] [(0,(.c (.int .u8 (.ofNat 44))))])),none,0⟩,
⟨(some 20),(.x (.app 5 1 1 (.t 18) (.t 19))),none,0⟩,
⟨none,(.x (.st 1 (.t 2) (.t 20))),none,0⟩]))))
(.reg [⟨(some 21),(.q (.bin .add (.p .int) (.t 9) (.c (.int .i64 (.ofNat 1))))),none,0⟩,
⟨(some 9),(.q (.mv (.t 21))),none,0⟩])))))))
(.reg [⟨(some 22),(.q (.ld false 1 (.t 2))),none,0⟩,
⟨(some 23),(.a (.bslice 5 1 1 [(.int .u8 (.ofNat 0))] [(0,(.c (.int .u8 (.ofNat 59))))])),none,0⟩,
⟨(some 24),(.x (.app 5 1 1 (.t 22) (.t 23))),none,0⟩,
⟨none,(.x (.st 1 (.t 2) (.t 24))),none,0⟩]))⟩
theorem row67 : Row Tryd.prog (67, a67) := ⟨Tryd.f67, Tryd.func67, by kernel_rfl⟩
noncomputable def a68 : AFn :=
⟨11,[(.t 6)],(.seq (.reg [⟨(some 6),(.q (.mv (.c .nilsl))),none,0⟩])
(.seq (.reg [⟨(some 7),(.q (.mv (.t 0))),none,0⟩,
⟨(some 8),(.q (.mv (.t 1))),none,0⟩,
⟨(some 9),(.q (.mv (.t 2))),none,0⟩,
⟨(some 10),(.x (.call (.c (.fn 83 [] [])) [(.t 7),(.t 8),(.t 9)])),none,0⟩,
⟨(some 6),(.q (.mv (.t 10))),none,0⟩])
.ret))⟩
theorem row68 : Row Tryd.prog (68, a68) := ⟨Tryd.f68, Tryd.func68, by kernel_rfl⟩
noncomputable def a69 : AFn :=
⟨4,[(.t 2)],(.seq (.reg [⟨(some 2),(.q (.mv (.c (.int .i64 (.ofNat 0))))),none,0⟩])
(.seq (.reg [⟨(some 3),(.q (.mv (.t 0))),none,0⟩,
⟨(some 2),(.q (.mv (.t 3))),none,0⟩])
.ret))⟩
theorem row69 : Row Tryd.prog (69, a69) := ⟨Tryd.f69, Tryd.func69, by kernel_rfl⟩
noncomputable def a70 : AFn :=
⟨8,[(.t 3)],(.seq (.reg [⟨(some 3),(.q (.mv (.c (.int .i64 (.ofNat 0))))),none,0⟩])
(.seq (.reg [⟨(some 4),(.q (.ld false 1 (.t 1))),none,0⟩,
⟨(some 5),(.q (.mv (.t 0))),none,0⟩,
⟨(some 6),(.q (.iaddr (.slice 1) (.t 4) (.t 5))),none,0⟩,
⟨(some 7),(.q (.ld false 1 (.t 6))),none,0⟩,
⟨(some 3),(.q (.mv (.t 7))),none,0⟩])
.ret))⟩
theorem row70 : Row Tryd.prog (70, a70) := ⟨Tryd.f70, Tryd.func70, by kernel_rfl⟩
noncomputable def a71 : AFn :=
⟨148,[],(.seq (.reg [⟨(some 10),(.q (.mv (.c (.bool true)))),none,0⟩])
(.seq (.reg [⟨(some 11),(.q (.mv (.c (.bool true)))),none,0⟩])
(.block 0 (.loop (.block 1 (.seq (.reg [⟨(some 21),(.q (.mv (.t 2))),none,0⟩,
⟨(some 22),(.q (.mv (.t 1))),none,0⟩,
⟨(some 23),(.q (.bin .sub (.p .int) (.t 21) (.t 22))),none,0⟩,
⟨(some 12),(.q (.mv (.t 23))),none,0⟩])
(.seq (.seq (.reg [⟨(some 24),(.q (.mv (.t 12))),none,0⟩,
⟨(some 25),(.q (.bin .leq (.p .int) (.t 24) (.c (.int .i64 (.ofNat 12))))),none,0⟩])
(.cond (.t 25) (.seq (.reg [⟨(some 26),(.q (.mv (.t 0))),none,0⟩,
⟨(some 27),(.q (.mv (.t 1))),none,0⟩,
⟨(some 28),(.q (.mv (.t 2))),none,0⟩,
⟨(some 29),(.q (.mv (.t 4))),none,0⟩,
⟨(some 30),(.x (.call (.c (.fn 84 [] [])) [(.t 26),(.t 27),(.t 28),(.t 29)])),none,0⟩])
.ret) .skip))
(.seq (.seq (.reg [⟨(some 31),(.q (.mv (.t 3))),none,0⟩,
⟨(some 32),(.q (.bin .eql (.p .int) (.t 31) (.c (.int .i64 (.ofNat 0))))),none,0⟩])
(.cond (.t 32) (.seq (.reg [⟨(some 33),(.q (.mv (.t 0))),none,0⟩,
⟨(some 34),(.q (.mv (.t 1))),none,0⟩,
⟨(some 35),(.q (.mv (.t 2))),none,0⟩,
⟨(some 36),(.q (.mv (.t 4))),none,0⟩,
⟨(some 37),(.x (.call (.c (.fn 85 [] [])) [(.t 33),(.t 34),(.t 35),(.t 36)])),none,0⟩])
.ret) .skip))
(.seq (.seq (.reg [⟨(some 38),(.q (.mv (.t 10))),none,0⟩,
⟨(some 39),(.q (.un .not (.t 38))),none,0⟩])
(.cond (.t 39) (.seq (.reg [⟨(some 40),(.q (.mv (.t 0))),none,0⟩,
⟨(some 41),(.q (.mv (.t 1))),none,0⟩,
⟨(some 42),(.q (.mv (.t 2))),none,0⟩,
⟨(some 43),(.q (.mv (.t 4))),none,0⟩,
⟨(some 44),(.x (.call (.c (.fn 86 [] [])) [(.t 40),(.t 41),(.t 42),(.t 43)])),none,0⟩])
(.reg [⟨(some 45),(.q (.mv (.t 3))),none,0⟩,
⟨(some 46),(.q (.bin .sub (.p .int) (.t 45) (.c (.int .i64 (.ofNat 1))))),none,0⟩,
⟨(some 3),(.q (.mv (.t 46))),none,0⟩])) .skip))
(.seq (.reg [⟨(some 48),(.q (.mv (.t 0))),none,0⟩,
⟨(some 49),(.q (.mv (.t 1))),none,0⟩,
⟨(some 50),(.q (.mv (.t 2))),none,0⟩,
⟨(some 51),(.q (.mv (.t 4))),none,0⟩,
⟨(some 52),(.x (.call (.c (.fn 87 [] [])) [(.t 48),(.t 49),(.t 50),(.t 51)])),none,0⟩,
⟨(some 47),(.q (.mv (.t 52))),none,0⟩,
⟨(some 53),(.q (.extract (.t 47) 0)),none,0⟩,
⟨(some 54),(.q (.extract (.t 47) 1)),none,0⟩,
⟨(some 13),(.q (.mv (.t 53))),none,0⟩,
⟨(some 14),(.q (.mv (.t 54))),none,0⟩])
(.seq (.seq (.reg [⟨(some 55),(.q (.mv (.t 14))),none,0⟩,
⟨(some 56),(.q (.bin .eql (.p .int) (.t 55) (.c (.int .i64 (.ofNat 2))))),none,0⟩])
(.cond (.t 56) (.seq (.reg [⟨(some 57),(.q (.mv (.t 0))),none,0⟩,
⟨(some 58),(.q (.mv (.t 1))),none,0⟩,
⟨(some 59),(.q (.mv (.t 2))),none,0⟩,
⟨(some 60),(.q (.mv (.t 4))),none,0⟩,
⟨(some 61),(.x (.call (.c (.fn 88 [] [])) [(.t 57),(.t 58),(.t 59),(.t 60)])),none,0⟩])
(.seq (.reg [⟨(some 62),(.q (.mv (.t 2))),none,0⟩,
⟨(some 63),(.q (.bin .sub (.p .int) (.t 62) (.c (.int .i64 (.ofNat 1))))),none,0⟩,
⟨(some 64),(.q (.mv (.t 13))),none,0⟩,
⟨(some 65),(.q (.mv (.t 1))),none,0⟩,
⟨(some 66),(.q (.bin .sub (.p .int) (.t 64) (.t 65))),none,0⟩,
⟨(some 67),(.q (.bin .sub (.p .int) (.t 63) (.t 66))),none,0⟩,
⟨(some 13),(.q (.mv (.t 67))),none,0⟩])
(.reg [⟨(some 14),(.q (.mv (.c (.int .i64 (.ofNat 1))))),none,0⟩]))) .skip))
(.seq (.seq (.reg [⟨(some 68),(.q (.mv (.t 10))),none,0⟩,
⟨(some 69),(.q (.mv (.t 68))),none,0⟩,
⟨(some 70),(.q (.mv (.t 11))),(some (69,true)),0⟩,
⟨(some 71),(.q (.pick (.t 69) (.t 70) (.c (.bool false)))),none,0⟩,
⟨(some 72),(.q (.mv (.t 71))),none,0⟩,
⟨(some 73),(.q (.mv (.t 14))),(some (72,true)),0⟩,
⟨(some 74),(.q (.bin .eql (.p .int) (.t 73) (.c (.int .i64 (.ofNat 1))))),(some (72,true)),0⟩,
⟨(some 75),(.q (.pick (.t 72) (.t 74) (.c (.bool false)))),none,0⟩])
(.cond (.t 75) (.seq (.reg [⟨(some 76),(.q (.mv (.t 0))),none,0⟩,
⟨(some 77),(.q (.mv (.t 1))),none,0⟩,
⟨(some 78),(.q (.mv (.t 2))),none,0⟩,
⟨(some 79),(.q (.mv (.t 4))),none,0⟩,
⟨(some 80),(.x (.call (.c (.fn 89 [] [])) [(.t 76),(.t 77),(.t 78),(.t 79)])),none,0⟩])
(.cond (.t 80) .ret .skip)) .skip))
(.seq (.seq (.drw [⟨(some 81),(.q (.mv (.t 1))),none,0⟩,
⟨(some 82),(.q (.bin .gtr (.p .int) (.t 81) (.c (.int .i64 (.ofNat 0))))),none,1⟩,
⟨(some 83),(.q (.mv (.t 82))),none,3⟩,
⟨(some 84),(.q (.mv (.t 4))),(some (83,true)),7⟩,
⟨(some 85),(.q (.mv (.t 0))),(some (83,true)),7⟩,
⟨(some 86),(.q (.mv (.t 1))),(some (83,true)),7⟩,
⟨(some 87),(.q (.bin .sub (.p .int) (.t 86) (.c (.int .i64 (.ofNat 1))))),(some (83,true)),39⟩,
⟨(some 88),(.q (.iaddr (.slice 1) (.t 85) (.t 87))),(some (83,true)),119⟩,
⟨(some 89),(.q (.ld false 1 (.t 88))),(some (83,true)),247⟩,
⟨(some 90),(.q (.mv (.t 0))),(some (83,true)),7⟩,
⟨(some 91),(.q (.mv (.t 13))),(some (83,true)),7⟩,
⟨(some 92),(.q (.iaddr (.slice 1) (.t 90) (.t 91))),(some (83,true)),1543⟩,
⟨(some 93),(.q (.ld false 1 (.t 92))),(some (83,true)),3591⟩,
⟨(some 94),(.x (.call (.t 84) [(.t 89),(.t 93)])),(some (83,true)),8191⟩,
⟨(some 95),(.q (.bin .lss (.p .int) (.t 94) (.c (.int .i64 (.ofNat 0))))),(some (83,true)),16383⟩,
⟨(some 96),(.q (.un .not (.t 95))),(some (83,true)),32767⟩,
⟨(some 97),(.q (.pick (.t 83) (.t 96) (.c (.bool false)))),none,65535⟩])
(.cond (.t 97) (.seq (.reg [⟨(some 98),(.q (.mv (.t 0))),none,0⟩,
⟨(some 99),(.q (.mv (.t 1))),none,0⟩,
⟨(some 100),(.q (.mv (.t 2))),none,0⟩,
⟨(some 101),(.q (.mv (.t 13))),none,0⟩,
⟨(some 102),(.q (.mv (.t 4))),none,0⟩,
⟨(some 103),(.x (.call (.c (.fn 90 [] [])) [(.t 98),(.t 99),(.t 100),(.t 101),(.t 102)])),none,0⟩,
⟨(some 15),(.q (.mv (.t 103))),none,0⟩])
(.seq (.reg [⟨(some 104),(.q (.mv (.t 15))),none,0⟩,
⟨(some 1),(.q (.mv (.t 104))),none,0⟩])
(.exit 1))) .skip))
(.seq (.reg [⟨(some 106),(.q (.mv (.t 0))),none,0⟩,
⟨(some 107),(.q (.mv (.t 1))),none,0⟩,
⟨(some 108),(.q (.mv (.t 2))),none,0⟩,
⟨(some 109),(.q (.mv (.t 13))),none,0⟩,
⟨(some 110),(.q (.mv (.t 4))),none,0⟩,
⟨(some 111),(.x (.call (.c (.fn 91 [] [])) [(.t 106),(.t 107),(.t 108),(.t 109),(.t 110)])),none,0⟩,
⟨(some 105),(.q (.mv (.t 111))),none,0⟩,
⟨(some 112),(.q (.extract (.t 105) 0)),none,0⟩,
⟨(some 113),(.q (.extract (.t 105) 1)),none,0⟩,
⟨(some 16),(.q (.mv (.t 112))),none,0⟩,
⟨(some 17),(.q (.mv (.t 113))),none,0⟩])
(.seq (.reg [⟨(some 114),(.q (.mv (.t 17))),none,0⟩,
⟨(some 11),(.q (.mv (.t 114))),none,0⟩])
(.seq (.reg [⟨(some 115),(.q (.mv (.t 16))),none,0⟩,
⟨(some 116),(.q (.mv (.t 1))),none,0⟩,
⟨(some 117),(.q (.bin .sub (.p .int) (.t 115) (.t 116))),none,0⟩,
⟨(some 118),(.q (.mv (.t 2))),none,0⟩,
⟨(some 119),(.q (.mv (.t 16))),none,0⟩,
⟨(some 120),(.q (.bin .sub (.p .int) (.t 118) (.t 119))),none,0⟩,
⟨(some 18),(.q (.mv (.t 117))),none,0⟩,
⟨(some 19),(.q (.mv (.t 120))),none,0⟩])
(.seq (.reg [⟨(some 121),(.q (.mv (.t 12))),none,0⟩,
⟨(some 122),(.q (.bin .quo (.p .int) (.t 121) (.c (.int .i64 (.ofNat 8))))),none,0⟩,
⟨(some 20),(.q (.mv (.t 122))),none,0⟩])
(.seq (.reg [⟨(some 123),(.q (.mv (.t 18))),none,0⟩,
⟨(some 124),(.q (.mv (.t 19))),none,0⟩,
⟨(some 125),(.q (.bin .lss (.p .int) (.t 123) (.t 124))),none,0⟩])
(.cond (.t 125) (.seq (.reg [⟨(some 126),(.q (.mv (.t 18))),none,0⟩,
⟨(some 127),(.q (.mv (.t 20))),none,0⟩,
⟨(some 128),(.q (.bin .geq (.p .int) (.t 126) (.t 127))),none,0⟩,
⟨(some 10),(.q (.mv (.t 128))),none,0⟩])
(.seq (.reg [⟨(some 129),(.q (.mv (.t 0))),none,0⟩,
⟨(some 130),(.q (.mv (.t 1))),none,0⟩,
⟨(some 131),(.q (.mv (.t 16))),none,0⟩,
⟨(some 132),(.q (.mv (.t 3))),none,0⟩,
⟨(some 133),(.q (.mv (.t 4))),none,0⟩,
⟨(some 134),(.x (.call (.c (.fn 71 [] [])) [(.t 129),(.t 130),(.t 131),(.t 132),(.t 133)])),none,0⟩])
(.reg [⟨(some 135),(.q (.mv (.t 16))),none,0⟩,
⟨(some 136),(.q (.bin .add (.p .int) (.t 135) (.c (.int .i64 (.ofNat 1))))),none,0⟩,
⟨(some 1),(.q (.mv (.t 136))),none,0⟩]))) (.seq (.reg [⟨(some 137),(.q (.mv (.t 19))),none,0⟩,
⟨(some 138),(.q (.mv (.t 20))),none,0⟩,
⟨(some 139),(.q (.bin .geq (.p .int) (.t 137) (.t 138))),none,0⟩,
⟨(some 10),(.q (.mv (.t 139))),none,0⟩])
(.seq (.reg [⟨(some 140),(.q (.mv (.t 0))),none,0⟩,
⟨(some 141),(.q (.mv (.t 16))),none,0⟩,
⟨(some 142),(.q (.bin .add (.p .int) (.t 141) (.c (.int .i64 (.ofNat 1))))),none,0⟩,
⟨(some 143),(.q (.mv (.t 2))),none,0⟩,
⟨(some 144),(.q (.mv (.t 3))),none,0⟩,
⟨(some 145),(.q (.mv (.t 4))),none,0⟩,
⟨(some 146),(.x (.call (.c (.fn 71 [] [])) [(.t 140),(.t 142),(.t 143),(.t 144),(.t 145)])),none,0⟩])
(.reg [⟨(some 147),(.q (.mv (.t 16))),none,0⟩,
⟨(some 2),(.q (.mv (.t 147))),none,0⟩]))))))))))))))))))))))⟩
theorem row71 : Row Tryd.prog (71, a71) := ⟨Tryd.f71, Tryd.func71, by kernel_rfl⟩
noncomputable def a72 : AFn :=
⟨8,[(.t 2)],(.seq (.reg [⟨(some 2),(.q (.mv (.c (.int .i64 (.ofNat 0))))),none,0⟩])
(.seq (.cond (.c (.bool false)) (.seq (.reg [⟨(some 3),(.q (.mv (.t 0))),none,0⟩,
⟨(some 4),(.q (.conv (.int .u32) (.t 3))),none,0⟩,
⟨(some 5),(.x (.call (.c (.fn 92 [] [])) [(.t 4)])),none,0⟩,
⟨(some 2),(.q (.mv (.t 5))),none,0⟩])
.ret) .skip)
(.seq (.reg [⟨(some 6),(.q (.mv (.t 0))),none,0⟩,
⟨(some 7),(.x (.call (.c (.fn 93 [] [])) [(.t 6)])),none,0⟩,
⟨(some 2),(.q (.mv (.t 7))),none,0⟩])
.ret)))⟩
theorem row72 : Row Tryd.prog (72, a72) := ⟨Tryd.f72, Tryd.func72, by kernel_rfl⟩
noncomputable def a73 : AFn :=
⟨6,[(.t 2)],(.seq (.reg [⟨(some 2),(.q (.mv (.c (.bool false)))),none,0⟩])
(.seq (.reg [⟨(some 3),(.q (.mv (.t 0))),none,0⟩,
⟨(some 4),(.q (.mv (.t 0))),none,0⟩,
⟨(some 5),(.q (.bin .neq (.p .int) (.t 3) (.t 4))),none,0⟩,
⟨(some 2),(.q (.mv (.t 5))),none,0⟩])
.ret))⟩
theorem row73 : Row Tryd.prog (73, a73) := ⟨Tryd.f73, Tryd.func73, by kernel_rfl⟩
noncomputable def a75 : AFn :=
⟨19,[(.t 4)],(.seq (.reg [⟨(some 4),(.q (.mv (.c (.int .i64 (.ofNat 0))))),none,0⟩])
(.seq (.seq (.reg [⟨(some 6),(.q (.mv (.t 0))),none,0⟩,
⟨(some 7),(.q (.lenSl (.t 6))),none,0⟩,
⟨(some 8),(.q (.mv (.c (.int .i64 (.ofNat 0))))),none,0⟩])
(.block 0 (.loop (.seq (.reg [⟨(some 9),(.q (.bin .lss (.p .int) (.t 8) (.t 7))),none,0⟩])
(.seq (.cond (.t 9) .skip (.exit 0))
(.seq (.block 1 (.seq (.reg [⟨(some 10),(.q (.mv (.t 8))),none,0⟩,
⟨(some 5),(.q (.mv (.t 10))),none,0⟩])
(.seq (.reg [⟨(some 11),(.q (.mv (.t 1))),none,0⟩,
⟨(some 12),(.q (.mv (.t 0))),none,0⟩,
⟨(some 13),(.q (.mv (.t 5))),none,0⟩,
⟨(some 14),(.q (.iaddr (.slice 1) (.t 12) (.t 13))),none,0⟩,
⟨(some 15),(.q (.ld false 1 (.t 14))),none,0⟩,
⟨(some 16),(.q (.bin .eql (.p .bool) (.t 11) (.t 15))),none,0⟩])
(.cond (.t 16) (.seq (.reg [⟨(some 17),(.q (.mv (.t 5))),none,0⟩,
⟨(some 4),(.q (.mv (.t 17))),none,0⟩])
.ret) .skip))))
(.reg [⟨(some 18),(.q (.bin .add (.p .int) (.t 8) (.c (.int .i64 (.ofNat 1))))),none,0⟩,
⟨(some 8),(.q (.mv (.t 18))),none,0⟩])))))))
(.seq (.reg [⟨(some 4),(.q (.mv (.c (.int .i64 (.negSucc 0))))),none,0⟩])
.ret)))⟩
theorem row75 : Row Tryd.prog (75, a75) := ⟨Tryd.f75, Tryd.func75, by kernel_rfl⟩
noncomputable def a76 : AFn :=
⟨8,[],(.seq (.reg [⟨(some 2),(.a (.box 122 (.t 0))),none,0⟩])
(.seq (.reg [⟨(some 3),(.a (.alloc 3 [(.int .i64 (.ofNat 0))])),none,0⟩,
⟨none,(.x (.st 1 (.t 3) (.c (.int .i64 (.ofNat 0))))),none,0⟩])
(.seq (.reg [⟨(some 4),(.a (.alloc 122 [.nilfn])),none,0⟩])
(.seq (.reg [⟨(some 5),(.q (.mkFunc 77 [] [(.t 3),(.t 2),(.t 1),(.t 4)])),none,0⟩,
⟨none,(.x (.st 1 (.t 4) (.t 5))),none,0⟩])
(.reg [⟨(some 6),(.q (.ld false 1 (.t 4))),none,0⟩,
⟨(some 7),(.x (.call (.t 6) [(.c (.int .i64 (.ofNat 0))),(.c (.int .i64 (.negSucc 0)))])),none,0⟩])))))⟩
theorem row76 : Row Tryd.prog (76, a76) := ⟨Tryd.f76, Tryd.func76, by kernel_rfl⟩
noncomputable def a77 : AFn :=
⟨37,[(.t 8)],(.seq (.reg [⟨(some 8),(.q (.mv (.c (.bool false)))),none,0⟩])
(.seq (.reg [⟨(some 12),(.q (.ld false 1 (.t 2))),none,0⟩,
⟨(some 9),(.q (.mv (.t 12))),none,0⟩])
(.seq (.reg [⟨(some 13),(.q (.ld false 1 (.t 2))),none,0⟩,
⟨(some 14),(.q (.bin .add (.p .int) (.t 13) (.c (.int .i64 (.ofNat 1))))),none,0⟩,
⟨none,(.x (.st 1 (.t 2) (.t 14))),none,0⟩])
(.seq (.seq (.reg [⟨(some 15),(.q (.ld false 1 (.t 3))),none,0⟩,
⟨(some 16),(.q (.mv (.t 0))),none,0⟩,
⟨(some 17),(.q (.mv (.t 1))),none,0⟩,
⟨(some 18),(.x (.call (.t 15) [(.t 16),(.t 17)])),none,0⟩,
⟨(some 19),(.q (.un .not (.t 18))),none,0⟩])
(.cond (.t 19) (.seq (.reg [⟨(some 8),(.q (.mv (.c (.bool false)))),none,0⟩])
.ret) .skip))
(.seq (.seq (.reg [⟨(some 20),(.q (.faddr 1 (.t 4))),none,0⟩,
⟨(some 21),(.q (.ld false 1 (.t 20))),none,0⟩,
⟨(some 22),(.q (.mv (.t 0))),none,0⟩,
⟨(some 23),(.q (.iaddr (.slice 6) (.t 21) (.t 22))),none,0⟩,
⟨(some 24),(.q (.faddr 3 (.t 23))),none,0⟩,
⟨(some 25),(.q (.ld false 1 (.t 24))),none,0⟩,
⟨(some 26),(.q (.lenSl (.t 25))),none,0⟩,
⟨(some 27),(.q (.mv (.c (.int .i64 (.ofNat 0))))),none,0⟩])
(.block 0 (.loop (.seq (.reg [⟨(some 28),(.q (.bin .lss (.p .int) (.t 27) (.t 26))),none,0⟩])
(.seq (.cond (.t 28) .skip (.exit 0))
(.seq (.block 1 (.seq (.reg [⟨(some 29),(.q (.iaddr (.slice 1) (.t 25) (.t 27))),none,0⟩,
⟨(some 30),(.q (.ld false 1 (.t 29))),none,0⟩,
⟨(some 11),(.q (.mv (.t 30))),none,0⟩])
(.seq (.reg [⟨(some 31),(.q (.ld false 1 (.t 5))),none,0⟩,
⟨(some 32),(.q (.mv (.t 11))),none,0⟩,
⟨(some 33),(.q (.mv (.t 9))),none,0⟩,
⟨(some 34),(.x (.call (.t 31) [(.t 32),(.t 33)])),none,0⟩,
⟨(some 35),(.q (.un .not (.t 34))),none,0⟩])
(.cond (.t 35) (.seq (.reg [⟨(some 8),(.q (.mv (.c (.bool false)))),none,0⟩])
.ret) .skip))))
(.reg [⟨(some 36),(.q (.bin .add (.p .int) (.t 27) (.c (.int .i64 (.ofNat 1))))),none,0⟩,
⟨(some 27),(.q (.mv (.t 36))),none,0⟩])))))))
(.seq (.reg [⟨(some 8),(.q (.mv (.c (.bool true)))),none,0⟩])
.ret))))))⟩
theorem row77 : Row Tryd.prog (77, a77) := ⟨Tryd.f77, Tryd.func77, by kernel_rfl⟩
noncomputable def a78 : AFn :=
⟨43,[(.t 4)],(.seq (.reg [⟨(some 3),(.a (.box 51 (.t 1))),none,0⟩,
⟨(some 4),(.q (.mv (.c (.int .i64 (.ofNat 0))))),none,0⟩])
(.seq (.seq (.reg [⟨(some 5),(.q (.faddr 1 (.t 3))),none,0⟩,
⟨(some 6),(.q (.ld false 1 (.t 5))),none,0⟩,
⟨(some 7),(.q (.bin .neq (.p .int) (.t 6) (.c (.int .i64 (.ofNat 0))))),none,0⟩,
⟨(some 8),(.q (.mv (.t 7))),none,0⟩,
⟨(some 9),(.q (.faddr 2 (.t 3))),(some (8,false)),0⟩,
⟨(some 10),(.q (.ld false 1 (.t 9))),(some (8,false)),0⟩,
⟨(some 11),(.q (.bin .neq (.p .int) (.t 10) (.c (.int .i64 (.ofNat 0))))),(some (8,false)),0⟩,
⟨(some 12),(.q (.pick (.t 8) (.c (.bool true)) (.t 11))),none,0⟩,
⟨(some 13),(.q (.mv (.t 12))),none,0⟩,
⟨(some 14),(.q (.faddr 5 (.t 3))),(some (13,false)),0⟩,
⟨(some 15),(.q (.ld false 1 (.t 14))),(some (13,false)),0⟩,
⟨(some 16),(.q (.lenSl (.t 15))),(some (13,false)),0⟩,
⟨(some 17),(.q (.bin .gtr (.p .int) (.t 16) (.c (.int .i64 (.ofNat 0))))),(some (13,false)),0⟩,
⟨(some 18),(.q (.pick (.t 13) (.c (.bool true)) (.t 17))),none,0⟩,
⟨(some 19),(.q (.mv (.t 18))),none,0⟩,
⟨(some 20),(.q (.faddr 3 (.t 3))),(some (19,false)),0⟩,
⟨(some 21),(.q (.ld false 1 (.t 20))),(some (19,false)),0⟩,
⟨(some 22),(.q (.lenSl (.t 21))),(some (19,false)),0⟩,
⟨(some 23),(.q (.bin .lss (.p .int) (.t 22) (.c (.int .i64 (.ofNat 1))))),(some (19,false)),0⟩,
⟨(some 24),(.q (.pick (.t 19) (.c (.bool true)) (.t 23))),none,0⟩,
⟨(some 25),(.q (.mv (.t 24))),none,0⟩,
⟨(some 26),(.q (.faddr 3 (.t 3))),(some (25,false)),0⟩,
⟨(some 27),(.q (.ld false 1 (.t 26))),(some (25,false)),0⟩,
⟨(some 28),(.q (.lenSl (.t 27))),(some (25,false)),0⟩,
⟨(some 29),(.q (.bin .gtr (.p .int) (.t 28) (.c (.int .i64 (.ofNat 60))))),(some (25,false)),0⟩,
⟨(some 30),(.q (.pick (.t 25) (.c (.bool true)) (.t 29))),none,0⟩,
⟨(some 31),(.q (.mv (.t 30))),none,0⟩,
⟨(some 32),(.q (.faddr 4 (.t 3))),(some (31,false)),0⟩,
⟨(some 33),(.q (.ld false 1 (.t 32))),(some (31,false)),0⟩,
⟨(some 34),(.q (.lenSl (.t 33))),(some (31,false)),0⟩,
⟨(some 35),(.q (.faddr 3 (.t 3))),(some (31,false)),0⟩,
⟨(some 36),(.q (.ld false 1 (.t 35))),(some (31,false)),0⟩,
⟨(some 37),(.q (.lenSl (.t 36))),(some (31,false)),0⟩,
⟨(some 38),(.q (.bin .neq (.p .int) (.t 34) (.t 37))),(some (31,false)),0⟩,
⟨(some 39),(.q (.pick (.t 31) (.c (.bool true)) (.t 38))),none,0⟩])
(.cond (.t 39) (.seq (.reg [⟨(some 4),(.q (.mv (.c (.int .i64 (.ofNat 3))))),none,0⟩])
.ret) .skip))
(.seq (.reg [⟨(some 40),(.q (.faddr 4 (.t 3))),none,0⟩,
⟨(some 41),(.q (.ld false 1 (.t 40))),none,0⟩,
⟨(some 42),(.x (.call (.c (.fn 94 [] [])) [(.c (.int .i64 (.ofNat 1))),(.c (.int .i64 (.ofNat 1000))),(.t 41)])),none,0⟩,
⟨(some 4),(.q (.mv (.t 42))),none,0⟩])
.ret)))⟩
theorem row78 : Row Tryd.prog (78, a78) := ⟨Tryd.f78, Tryd.func78, by kernel_rfl⟩
noncomputable def a79 : AFn :=
⟨52,[(.t 4)],(.seq (.reg [⟨(some 3),(.a (.box 51 (.t 1))),none,0⟩,
⟨(some 4),(.q (.mv (.c (.int .i64 (.ofNat 0))))),none,0⟩])
(.seq (.seq (.reg [⟨(some 6),(.q (.faddr 4 (.t 3))),none,0⟩,
⟨(some 7),(.q (.ld false 1 (.t 6))),none,0⟩,
⟨(some 8),(.q (.lenSl (.t 7))),none,0⟩,
⟨(some 9),(.q (.bin .gtr (.p .int) (.t 8) (.c (.int .i64 (.ofNat 0))))),none,0⟩,
⟨(some 10),(.q (.mv (.t 9))),none,0⟩,
⟨(some 11),(.q (.faddr 5 (.t 3))),(some (10,false)),0⟩,
⟨(some 12),(.q (.ld false 1 (.t 11))),(some (10,false)),0⟩,
⟨(some 13),(.q (.lenSl (.t 12))),(some (10,false)),0⟩,
⟨(some 14),(.q (.bin .gtr (.p .int) (.t 13) (.c (.int .i64 (.ofNat 0))))),(some (10,false)),0⟩,
⟨(some 15),(.q (.pick (.t 10) (.c (.bool true)) (.t 14))),none,0⟩,
⟨(some 16),(.q (.mv (.t 15))),none,0⟩,
⟨(some 17),(.q (.faddr 3 (.t 3))),(some (16,false)),0⟩,
⟨(some 18),(.q (.ld false 1 (.t 17))),(some (16,false)),0⟩,
⟨(some 19),(.q (.lenSl (.t 18))),(some (16,false)),0⟩,
⟨(some 20),(.q (.bin .lss (.p .int) (.t 19) (.c (.int .i64 (.ofNat 1))))),(some (16,false)),0⟩,
⟨(some 21),(.q (.pick (.t 16) (.c (.bool true)) (.t 20))),none,0⟩,
⟨(some 22),(.q (.mv (.t 21))),none,0⟩,
⟨(some 23),(.q (.faddr 3 (.t 3))),(some (22,false)),0⟩,
⟨(some 24),(.q (.ld false 1 (.t 23))),(some (22,false)),0⟩,
⟨(some 25),(.q (.lenSl (.t 24))),(some (22,false)),0⟩,
⟨(some 26),(.q (.bin .gtr (.p .int) (.t 25) (.c (.int .i64 (.ofNat 10))))),(some (22,false)),0⟩,
⟨(some 27),(.q (.pick (.t 22) (.c (.bool true)) (.t 26))),none,0⟩])
(.cond (.t 27) (.seq (.reg [⟨(some 4),(.q (.mv (.c (.int .i64 (.ofNat 3))))),none,0⟩])
.ret) .skip))
(.seq (.seq (.drw [⟨(some 28),(.q (.mv (.t 0))),none,0⟩,
⟨(some 29),(.q (.nilchk (.t 28))),none,1⟩,
⟨(some 30),(.q (.faddr 0 (.t 29))),none,3⟩,
⟨(some 31),(.q (.faddr 0 (.t 30))),none,7⟩,
⟨(some 32),(.q (.ld false 1 (.t 31))),none,15⟩,
⟨(some 33),(.q (.bin .sub (.p .int) (.t 32) (.c (.int .i64 (.ofNat 1))))),none,31⟩,
⟨(some 34),(.q (.faddr 1 (.t 3))),none,0⟩,
⟨(some 35),(.q (.ld false 1 (.t 34))),none,64⟩,
⟨(some 36),(.a (.bslice 3 1 1 [(.int .i64 (.ofNat 0))] [(0,(.t 35))])),none,192⟩,
⟨(some 37),(.x (.call (.c (.fn 94 [] [])) [(.c (.int .i64 (.ofNat 0))),(.t 33),(.t 36)])),none,511⟩,
⟨(some 5),(.q (.mv (.t 37))),none,1023⟩])
(.seq (.reg [⟨(some 38),(.q (.mv (.t 5))),none,0⟩,
⟨(some 39),(.q (.bin .neq (.p .int) (.t 38) (.c (.int .i64 (.ofNat 0))))),none,0⟩])
(.cond (.t 39) (.seq (.reg [⟨(some 40),(.q (.mv (.t 5))),none,0⟩,
⟨(some 4),(.q (.mv (.t 40))),none,0⟩])
.ret) .skip)))
(.seq (.drw [⟨(some 41),(.q (.mv (.t 0))),none,0⟩,
⟨(some 42),(.q (.nilchk (.t 41))),none,1⟩,
⟨(some 43),(.q (.faddr 0 (.t 42))),none,3⟩,
⟨(some 44),(.q (.faddr 2 (.t 43))),none,7⟩,
⟨(some 45),(.q (.ld false 1 (.t 44))),none,15⟩,
⟨(some 46),(.q (.lenSl (.t 45))),none,31⟩,
⟨(some 47),(.q (.bin .sub (.p .int) (.t 46) (.c (.int .i64 (.ofNat 1))))),none,63⟩,
⟨(some 48),(.q (.faddr 2 (.t 3))),none,0⟩,
⟨(some 49),(.q (.ld false 1 (.t 48))),none,128⟩,
⟨(some 50),(.a (.bslice 3 1 1 [(.int .i64 (.ofNat 0))] [(0,(.t 49))])),none,384⟩,
⟨(some 51),(.x (.call (.c (.fn 94 [] [])) [(.c (.int .i64 (.ofNat 0))),(.t 47),(.t 50)])),none,1023⟩,
⟨(some 4),(.q (.mv (.t 51))),none,2047⟩])
.ret))))⟩
theorem row79 : Row Tryd.prog (79, a79) := ⟨Tryd.f79, Tryd.func79, by kernel_rfl⟩
noncomputable def a80 : AFn :=
⟨39,[(.t 4)],(.seq (.reg [⟨(some 3),(.a (.box 51 (.t 1))),none,0⟩,
⟨(some 4),(.q (.mv (.c (.int .i64 (.ofNat 0))))),none,0⟩])
(.seq (.seq (.drw [⟨(some 5),(.q (.faddr 1 (.t 3))),none,0⟩,
⟨(some 6),(.q (.ld false 1 (.t 5))),none,1⟩,
⟨(some 7),(.q (.bin .neq (.p .int) (.t 6) (.c (.int .i64 (.ofNat 0))))),none,3⟩,
⟨(some 8),(.q (.mv (.t 7))),none,7⟩,
⟨(some 9),(.q (.faddr 2 (.t 3))),(some (8,false)),15⟩,
⟨(some 10),(.q (.ld false 1 (.t 9))),(some (8,false)),31⟩,
⟨(some 11),(.q (.bin .neq (.p .int) (.t 10) (.c (.int .i64 (.ofNat 0))))),(some (8,false)),63⟩,
⟨(some 12),(.q (.pick (.t 8) (.c (.bool true)) (.t 11))),none,127⟩,
⟨(some 13),(.q (.mv (.t 12))),none,255⟩,
⟨(some 14),(.q (.faddr 3 (.t 3))),(some (13,false)),511⟩,
⟨(some 15),(.q (.ld false 1 (.t 14))),(some (13,false)),1023⟩,
⟨(some 16),(.q (.lenSl (.t 15))),(some (13,false)),2047⟩,
⟨(some 17),(.q (.bin .gtr (.p .int) (.t 16) (.c (.int .i64 (.ofNat 0))))),(some (13,false)),4095⟩,
⟨(some 18),(.q (.pick (.t 13) (.c (.bool true)) (.t 17))),none,8191⟩,
⟨(some 19),(.q (.mv (.t 18))),none,16383⟩,
⟨(some 20),(.q (.faddr 4 (.t 3))),(some (19,false)),32767⟩,
⟨(some 21),(.q (.ld false 1 (.t 20))),(some (19,false)),65535⟩,
⟨(some 22),(.q (.lenSl (.t 21))),(some (19,false)),131071⟩,
⟨(some 23),(.q (.bin .gtr (.p .int) (.t 22) (.c (.int .i64 (.ofNat 0))))),(some (19,false)),262143⟩,
⟨(some 24),(.q (.pick (.t 19) (.c (.bool true)) (.t 23))),none,524287⟩,
⟨(some 25),(.q (.mv (.t 24))),none,1048575⟩,
⟨(some 26),(.q (.faddr 5 (.t 3))),(some (25,false)),2097151⟩,
⟨(some 27),(.q (.ld false 1 (.t 26))),(some (25,false)),4194303⟩,
⟨(some 28),(.q (.lenSl (.t 27))),(some (25,false)),8388607⟩,
⟨(some 29),(.q (.mv (.t 0))),(some (25,false)),2097151⟩,
⟨(some 30),(.q (.nilchk (.t 29))),(some (25,false)),18874367⟩,
⟨(some 31),(.q (.faddr 0 (.t 30))),(some (25,false)),52428799⟩,
⟨(some 32),(.q (.faddr 0 (.t 31))),(some (25,false)),119537663⟩,
⟨(some 33),(.q (.ld false 1 (.t 32))),(some (25,false)),253755391⟩,
⟨(some 34),(.q (.bin .neq (.p .int) (.t 28) (.t 33))),(some (25,false)),536870911⟩,
⟨(some 35),(.q (.pick (.t 25) (.c (.bool true)) (.t 34))),none,1073741823⟩])
(.cond (.t 35) (.seq (.reg [⟨(some 4),(.q (.mv (.c (.int .i64 (.ofNat 3))))),none,0⟩])
.ret) .skip))
(.seq (.reg [⟨(some 36),(.q (.faddr 5 (.t 3))),none,0⟩,
⟨(some 37),(.q (.ld false 1 (.t 36))),none,0⟩,
⟨(some 38),(.x (.call (.c (.fn 94 [] [])) [(.c (.int .i64 (.negSucc 999999))),(.c (.int .i64 (.ofNat 1000000))),(.t 37)])),none,0⟩,
⟨(some 4),(.q (.mv (.t 38))),none,0⟩])
.ret)))⟩
theorem row80 : Row Tryd.prog (80, a80) := ⟨Tryd.f80, Tryd.func80, by kernel_rfl⟩
end Go.Proofs.YtfmgnnfghdjpfaaDoor.mergeNames
