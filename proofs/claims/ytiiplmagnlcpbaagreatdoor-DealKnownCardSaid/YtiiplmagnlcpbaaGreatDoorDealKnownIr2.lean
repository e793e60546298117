/- The functions that DealKnown reaches, as data of the evaluator (part 2), written by program; each is shown to be the compiler's result on the loaded function. -/
import Derived.Test.YtiiplmagnlcpbaaGreatDoorProg
import Derived.Test.YtiiplmagnlcpbaaGreatDoorEv7
import Derived.KernelRfl
namespace Go.Proofs.YtiiplmagnlcpbaaGreatDoor.dealKnown
open Go.Ev
set_option maxRecDepth 100000
noncomputable def a103 : AFn :=
⟨13,[(.t 4)],(.seq (.reg [⟨(some 2),(.a (.box 46 (.t 0))),none,0⟩,
⟨(some 3),(.a (.box 46 (.t 1))),none,0⟩,
⟨(some 4),(.q (.mv (.c (.int .i64 (.ofNat 0))))),none,0⟩])
(.seq (.seq (.reg [⟨(some 6),(.q (.ld true 3 (.t 2))),none,0⟩,
⟨(some 7),(.x (.call (.c (.fn 123 [] [])) [(.t 6)])),none,0⟩,
⟨(some 5),(.q (.mv (.t 7))),none,0⟩])
(.seq (.reg [⟨(some 8),(.q (.mv (.t 5))),none,0⟩,
⟨(some 9),(.q (.bin .neq (.p .int) (.t 8) (.c (.int .i64 (.ofNat 0))))),none,0⟩])
(.cond (.t 9) (.seq (.reg [⟨(some 10),(.q (.mv (.t 5))),none,0⟩,
⟨(some 4),(.q (.mv (.t 10))),none,0⟩])
.ret) .skip)))
(.seq (.reg [⟨(some 11),(.q (.ld true 3 (.t 3))),none,0⟩,
⟨(some 12),(.x (.call (.c (.fn 123 [] [])) [(.t 11)])),none,0⟩,
⟨(some 4),(.q (.mv (.t 12))),none,0⟩])
.ret)))⟩
theorem row103 : Row Tryz.prog (103, a103) := ⟨Tryz.f103, Tryz.func103, by kernel_rfl⟩
noncomputable def a104 : AFn :=
⟨11,[(.t 2)],(.seq (.reg [⟨(some 1),(.a (.box 46 (.t 0))),none,0⟩,
⟨(some 2),(.q (.mv (.c (.int .i64 (.ofNat 0))))),none,0⟩])
(.seq (.block 0 (.seq (.reg [⟨(some 4),(.q (.faddr 1 (.t 1))),none,0⟩,
⟨(some 5),(.q (.ld false 1 (.t 4))),none,0⟩,
⟨(some 6),(.q (.lenSl (.t 5))),none,0⟩,
⟨(some 7),(.q (.bin .eql (.p .int) (.t 6) (.c (.int .i64 (.ofNat 0))))),none,0⟩,
⟨(some 3),(.q (.mv (.t 7))),none,0⟩])
(.cond (.t 3) (.seq (.reg [⟨(some 2),(.q (.mv (.c (.int .i64 (.ofNat 1))))),none,0⟩])
.ret) (.seq (.reg [⟨(some 9),(.q (.faddr 0 (.t 1))),none,0⟩,
⟨(some 10),(.q (.ld false 1 (.t 9))),none,0⟩,
⟨(some 8),(.q (.mv (.t 10))),none,0⟩])
(.cond (.t 8) (.seq (.reg [⟨(some 2),(.q (.mv (.c (.int .i64 (.ofNat 0))))),none,0⟩])
.ret) .skip)))))
(.seq (.reg [⟨(some 2),(.q (.mv (.c (.int .i64 (.ofNat 2))))),none,0⟩])
.ret)))⟩
theorem row104 : Row Tryz.prog (104, a104) := ⟨Tryz.f104, Tryz.func104, by kernel_rfl⟩
noncomputable def a105 : AFn :=
⟨12,[(.cell 2 true 3),(.t 3)],(.seq (.reg [⟨(some 2),(.a (.alloc 46 [(.bool false),.nilsl,.nilsl])),none,0⟩,
⟨(some 3),(.q (.mv (.c (.int .i64 (.ofNat 0))))),none,0⟩])
(.seq (.reg [⟨(some 4),(.a (.alloc 174 [.nilfn])),none,0⟩,
⟨none,(.x (.st 1 (.t 4) (.c (.fn 124 [] [])))),none,0⟩])
(.seq (.reg [⟨(some 5),(.x (.call (.c (.fn 97 [] [])) [])),none,0⟩,
⟨(some 6),(.q (.mkFunc 128 [] [(.t 4)])),none,0⟩,
⟨(some 7),(.q (.mv (.t 0))),none,0⟩,
⟨(some 8),(.x (.call (.c (.fn 127 [] [])) [(.t 5),(.t 6),(.t 7)])),none,0⟩,
⟨(some 9),(.x (.call (.c (.fn 126 [] [])) [(.t 8)])),none,0⟩,
⟨(some 10),(.q (.extract (.t 9) 0)),none,0⟩,
⟨(some 11),(.q (.extract (.t 9) 1)),none,0⟩,
⟨none,(.x (.st 3 (.t 2) (.t 10))),none,0⟩,
⟨(some 3),(.q (.mv (.t 11))),none,0⟩])
.ret)))⟩
theorem row105 : Row Tryz.prog (105, a105) := ⟨Tryz.f105, Tryz.func105, by kernel_rfl⟩
noncomputable def a106 : AFn :=
⟨12,[(.cell 2 true 3)],(.seq (.reg [⟨(some 1),(.a (.box 46 (.t 0))),none,0⟩,
⟨(some 2),(.a (.alloc 46 [(.bool false),.nilsl,.nilsl])),none,0⟩])
(.seq (.drw [⟨(some 3),(.q (.faddr 0 (.t 1))),none,0⟩,
⟨(some 4),(.q (.ld false 1 (.t 3))),none,1⟩,
⟨(some 5),(.q (.faddr 2 (.t 1))),none,0⟩,
⟨(some 6),(.q (.ld false 1 (.t 5))),none,4⟩,
⟨(some 7),(.x (.call (.c (.fn 101 [] [])) [(.t 6)])),none,12⟩,
⟨(some 8),(.q (.faddr 1 (.t 1))),none,0⟩,
⟨(some 9),(.q (.ld false 1 (.t 8))),none,32⟩,
⟨(some 10),(.x (.call (.c (.fn 101 [] [])) [(.t 9)])),none,124⟩,
⟨(some 11),(.q (.build [(.bool false),.nilsl,.nilsl] [(0,1,(.t 4)),(1,1,(.t 7)),(2,1,(.t 10))])),none,255⟩,
⟨none,(.x (.st 3 (.t 2) (.t 11))),none,511⟩])
.ret))⟩
theorem row106 : Row Tryz.prog (106, a106) := ⟨Tryz.f106, Tryz.func106, by kernel_rfl⟩
noncomputable def a107 : AFn :=
⟨15,[(.cell 4 true 3)],(.seq (.reg [⟨(some 4),(.a (.alloc 46 [(.bool false),.nilsl,.nilsl])),none,0⟩])
(.seq (.reg [⟨(some 5),(.q (.mv (.t 0))),none,0⟩,
⟨(some 6),(.q (.mv (.t 5))),none,0⟩,
⟨(some 7),(.q (.mv (.t 1))),(some (6,true)),0⟩,
⟨(some 8),(.q (.lenSl (.t 7))),(some (6,true)),0⟩,
⟨(some 9),(.q (.bin .gtr (.p .int) (.t 8) (.c (.int .i64 (.ofNat 0))))),(some (6,true)),0⟩,
⟨(some 10),(.q (.pick (.t 6) (.t 9) (.c (.bool false)))),none,0⟩,
⟨(some 11),(.q (.mv (.t 1))),none,0⟩,
⟨(some 12),(.x (.call (.c (.fn 101 [] [])) [(.t 11)])),none,0⟩,
⟨(some 13),(.x (.call (.c (.fn 108 [] [])) [])),none,0⟩,
⟨(some 14),(.q (.build [(.bool false),.nilsl,.nilsl] [(0,1,(.t 10)),(1,1,(.t 12)),(2,1,(.t 13))])),none,0⟩,
⟨none,(.x (.st 3 (.t 4) (.t 14))),none,0⟩])
.ret))⟩
theorem row107 : Row Tryz.prog (107, a107) := ⟨Tryz.f107, Tryz.func107, by kernel_rfl⟩
noncomputable def a108 : AFn :=
⟨2,[(.t 0)],(.seq (.reg [⟨(some 0),(.q (.mv (.c .nilsl))),none,0⟩])
(.seq (.reg [⟨(some 1),(.a (.bslice 97 1 1 [(.int .u32 (.ofNat 0))] [(0,(.c (.int .u32 (.ofNat 1))))])),none,0⟩,
⟨(some 0),(.q (.mv (.t 1))),none,0⟩])
.ret))⟩
theorem row108 : Row Tryz.prog (108, a108) := ⟨Tryz.f108, Tryz.func108, by kernel_rfl⟩
noncomputable def a110 : AFn :=
⟨43,[(.t 4)],(.seq (.reg [⟨(some 3),(.a (.box 73 (.t 1))),none,0⟩,
⟨(some 4),(.q (.mv (.c (.int .i64 (.ofNat 0))))),none,0⟩])
(.seq (.seq (.reg [⟨(some 5),(.q (.faddr 1 (.t 3))),none,0⟩,
⟨(some 6),(.q (.ld false 1 (.t 5))),none,0⟩,
⟨(some 7),(.q (.bin .neq (.p .int) (.t 6) (.c (.int .i64 (.ofNat 0))))),none,0⟩,
⟨(some 8),(.q (.mv (.t 7))),none,0⟩,
⟨(some 9),(.q (.faddr 2 (.t 3))),(some (8,false)),0⟩,
⟨(some 10),(.q (.ld false 1 (.t 9))),(some (8,false)),0⟩,
⟨(some 11),(.q (.bin .neq (.p .int) (.t 10) (.c (.int .i64 (.ofNat 0))))),(some (8,false)),0⟩,
⟨(some 12),(.q (.pick (.t 8) (.c (.bool true)) (.t 11))),none,0⟩,
⟨(some 13),(.q (.mv (.t 12))),none,0⟩,
⟨(some 14),(.q (.faddr 5 (.t 3))),(some (13,false)),0⟩,
⟨(some 15),(.q (.ld false 1 (.t 14))),(some (13,false)),0⟩,
⟨(some 16),(.q (.lenSl (.t 15))),(some (13,false)),0⟩,
⟨(some 17),(.q (.bin .gtr (.p .int) (.t 16) (.c (.int .i64 (.ofNat 0))))),(some (13,false)),0⟩,
⟨(some 18),(.q (.pick (.t 13) (.c (.bool true)) (.t 17))),none,0⟩,
⟨(some 19),(.q (.mv (.t 18))),none,0⟩,
⟨(some 20),(.q (.faddr 3 (.t 3))),(some (19,false)),0⟩,
⟨(some 21),(.q (.ld false 1 (.t 20))),(some (19,false)),0⟩,
⟨(some 22),(.q (.lenSl (.t 21))),(some (19,false)),0⟩,
⟨(some 23),(.q (.bin .lss (.p .int) (.t 22) (.c (.int .i64 (.ofNat 1))))),(some (19,false)),0⟩,
⟨(some 24),(.q (.pick (.t 19) (.c (.bool true)) (.t 23))),none,0⟩,
⟨(some 25),(.q (.mv (.t 24))),none,0⟩,
⟨(some 26),(.q (.faddr 3 (.t 3))),(some (25,false)),0⟩,
⟨(some 27),(.q (.ld false 1 (.t 26))),(some (25,false)),0⟩,
⟨(some 28),(.q (.lenSl (.t 27))),(some (25,false)),0⟩,
⟨(some 29),(.q (.bin .gtr (.p .int) (.t 28) (.c (.int .i64 (.ofNat 60))))),(some (25,false)),0⟩,
⟨(some 30),(.q (.pick (.t 25) (.c (.bool true)) (.t 29))),none,0⟩,
⟨(some 31),(.q (.mv (.t 30))),none,0⟩,
⟨(some 32),(.q (.faddr 4 (.t 3))),(some (31,false)),0⟩,
⟨(some 33),(.q (.ld false 1 (.t 32))),(some (31,false)),0⟩,
⟨(some 34),(.q (.lenSl (.t 33))),(some (31,false)),0⟩,
⟨(some 35),(.q (.faddr 3 (.t 3))),(some (31,false)),0⟩,
⟨(some 36),(.q (.ld false 1 (.t 35))),(some (31,false)),0⟩,
⟨(some 37),(.q (.lenSl (.t 36))),(some (31,false)),0⟩,
⟨(some 38),(.q (.bin .neq (.p .int) (.t 34) (.t 37))),(some (31,false)),0⟩,
⟨(some 39),(.q (.pick (.t 31) (.c (.bool true)) (.t 38))),none,0⟩])
(.cond (.t 39) (.seq (.reg [⟨(some 4),(.q (.mv (.c (.int .i64 (.ofNat 3))))),none,0⟩])
.ret) .skip))
(.seq (.reg [⟨(some 40),(.q (.faddr 4 (.t 3))),none,0⟩,
⟨(some 41),(.q (.ld false 1 (.t 40))),none,0⟩,
⟨(some 42),(.x (.call (.c (.fn 130 [] [])) [(.c (.int .i64 (.ofNat 1))),(.c (.int .i64 (.ofNat 1000))),(.t 41)])),none,0⟩,
⟨(some 4),(.q (.mv (.t 42))),none,0⟩])
.ret)))⟩
theorem row110 : Row Tryz.prog (110, a110) := ⟨Tryz.f110, Tryz.func110, by kernel_rfl⟩
noncomputable def a111 : AFn :=
⟨52,[(.t 4)],(.seq (.reg [⟨(some 3),(.a (.box 73 (.t 1))),none,0⟩,
⟨(some 4),(.q (.mv (.c (.int .i64 (.ofNat 0))))),none,0⟩])
(.seq (.seq (.reg [⟨(some 6),(.q (.faddr 4 (.t 3))),none,0⟩,
⟨(some 7),(.q (.ld false 1 (.t 6))),none,0⟩,
⟨(some 8),(.q (.lenSl (.t 7))),none,0⟩,
⟨(some 9),(.q (.bin .gtr (.p .int) (.t 8) (.c (.int .i64 (.ofNat 0))))),none,0⟩,
⟨(some 10),(.q (.mv (.t 9))),none,0⟩,
⟨(some 11),(.q (.faddr 5 (.t 3))),(some (10,false)),0⟩,
⟨(some 12),(.q (.ld false 1 (.t 11))),(some (10,false)),0⟩,
⟨(some 13),(.q (.lenSl (.t 12))),(some (10,false)),0⟩,
⟨(some 14),(.q (.bin .gtr (.p .int) (.t 13) (.c (.int .i64 (.ofNat 0))))),(some (10,false)),0⟩,
⟨(some 15),(.q (.pick (.t 10) (.c (.bool true)) (.t 14))),none,0⟩,
⟨(some 16),(.q (.mv (.t 15))),none,0⟩,
⟨(some 17),(.q (.faddr 3 (.t 3))),(some (16,false)),0⟩,
⟨(some 18),(.q (.ld false 1 (.t 17))),(some (16,false)),0⟩,
⟨(some 19),(.q (.lenSl (.t 18))),(some (16,false)),0⟩,
⟨(some 20),(.q (.bin .lss (.p .int) (.t 19) (.c (.int .i64 (.ofNat 1))))),(some (16,false)),0⟩,
⟨(some 21),(.q (.pick (.t 16) (.c (.bool true)) (.t 20))),none,0⟩,
⟨(some 22),(.q (.mv (.t 21))),none,0⟩,
⟨(some 23),(.q (.faddr 3 (.t 3))),(some (22,false)),0⟩,
⟨(some 24),(.q (.ld false 1 (.t 23))),(some (22,false)),0⟩,
⟨(some 25),(.q (.lenSl (.t 24))),(some (22,false)),0⟩,
⟨(some 26),(.q (.bin .gtr (.p .int) (.t 25) (.c (.int .i64 (.ofNat 10))))),(some (22,false)),0⟩,
⟨(some 27),(.q (.pick (.t 22) (.c (.bool true)) (.t 26))),none,0⟩])
(.cond (.t 27) (.seq (.reg [⟨(some 4),(.q (.mv (.c (.int .i64 (.ofNat 3))))),none,0⟩])
.ret) .skip))
(.seq (.seq (.drw [⟨(some 28),(.q (.mv (.t 0))),none,0⟩,
⟨(some 29),(.q (.nilchk (.t 28))),none,1⟩,
⟨(some 30),(.q (.faddr 0 (.t 29))),none,3⟩,
⟨(some 31),(.q (.faddr 0 (.t 30))),none,7⟩,
⟨(some 32),(.q (.ld false 1 (.t 31))),none,15⟩,
⟨(some 33),(.q (.bin .sub (.p .int) (.t 32) (.c (.int .i64 (.ofNat 1))))),none,31⟩,
⟨(some 34),(.q (.faddr 1 (.t 3))),none,0⟩,
⟨(some 35),(.q (.ld false 1 (.t 34))),none,64⟩,
⟨(some 36),(.a (.bslice 3 1 1 [(.int .i64 (.ofNat 0))] [(0,(.t 35))])),none,192⟩,
⟨(some 37),(.x (.call (.c (.fn 130 [] [])) [(.c (.int .i64 (.ofNat 0))),(.t 33),(.t 36)])),none,511⟩,
⟨(some 5),(.q (.mv (.t 37))),none,1023⟩])
(.seq (.reg [⟨(some 38),(.q (.mv (.t 5))),none,0⟩,
⟨(some 39),(.q (.bin .neq (.p .int) (.t 38) (.c (.int .i64 (.ofNat 0))))),none,0⟩])
(.cond (.t 39) (.seq (.reg [⟨(some 40),(.q (.mv (.t 5))),none,0⟩,
⟨(some 4),(.q (.mv (.t 40))),none,0⟩])
.ret) .skip)))
(.seq (.drw [⟨(some 41),(.q (.mv (.t 0))),none,0⟩,
⟨(some 42),(.q (.nilchk (.t 41))),none,1⟩,
⟨(some 43),(.q (.faddr 0 (.t 42))),none,3⟩,
⟨(some 44),(.q (.faddr 2 (.t 43))),none,7⟩,
⟨(some 45),(.q (.ld false 1 (.t 44))),none,15⟩,
⟨(some 46),(.q (.lenSl (.t 45))),none,31⟩,
⟨(some 47),(.q (.bin .sub (.p .int) (.t 46) (.c (.int .i64 (.ofNat 1))))),none,63⟩,
⟨(some 48),(.q (.faddr 2 (.t 3))),none,0⟩,
⟨(some 49),(.q (.ld false 1 (.t 48))),none,128⟩,
⟨(some 50),(.a (.bslice 3 1 1 [(.int .i64 (.ofNat 0))] [(0,(.t 49))])),none,384⟩,
⟨(some 51),(.x (.call (.c (.fn 130 [] [])) [(.c (.int .i64 (.ofNat 0))),(.t 47),(.t 50)])),none,1023⟩,
⟨(some 4),(.q (.mv (.t 51))),none,2047⟩])
.ret))))⟩
theorem row111 : Row Tryz.prog (111, a111) := ⟨Tryz.f111, Tryz.func111, by kernel_rfl⟩
noncomputable def a112 : AFn :=
⟨39,[(.t 4)],(.seq (.reg [⟨(some 3),(.a (.box 73 (.t 1))),none,0⟩,
⟨(some 4),(.q (.mv (.c (.int .i64 (.ofNat 0))))),none,0⟩])
(.seq (.seq (.drw [⟨(some 5),(.q (.faddr 1 (.t 3))),none,0⟩,
⟨(some 6),(.q (.ld false 1 (.t 5))),none,1⟩,
⟨(some 7),(.q (.bin .neq (.p .int) (.t 6) (.c (.int .i64 (.ofNat 0))))),none,3⟩,
⟨(some 8),(.q (.mv (.t 7))),none,7⟩,
⟨(some 9),(.q (.faddr 2 (.t 3))),(some (8,false)),15⟩,
⟨(some 10),(.q (.ld false 1 (.t 9))),(some (8,false)),31⟩,
⟨(some 11),(.q (.bin .neq (.p .int) (.t 10) (.c (.int .i64 (.ofNat 0))))),(some (8,false)),63⟩,
⟨(some 12),(.q (.pick (.t 8) (.c (.bool true)) (.t 11))),none,127⟩,
⟨(some 13),(.q (.mv (.t 12))),none,255⟩,
⟨(some 14),(.q (.faddr 3 (.t 3))),(some (13,false)),511⟩,
⟨(some 15),(.q (.ld false 1 (.t 14))),(some (13,false)),1023⟩,
⟨(some 16),(.q (.lenSl (.t 15))),(some (13,false)),2047⟩,
⟨(some 17),(.q (.bin .gtr (.p .int) (.t 16) (.c (.int .i64 (.ofNat 0))))),(some (13,false)),4095⟩,
⟨(some 18),(.q (.pick (.t 13) (.c (.bool true)) (.t 17))),none,8191⟩,
⟨(some 19),(.q (.mv (.t 18))),none,16383⟩,
⟨(some 20),(.q (.faddr 4 (.t 3))),(some (19,false)),32767⟩,
⟨(some 21),(.q (.ld false 1 (.t 20))),(some (19,false)),65535⟩,
⟨(some 22),(.q (.lenSl (.t 21))),(some (19,false)),131071⟩,
⟨(some 23),(.q (.bin .gtr (.p .int) (.t 22) (.c (.int .i64 (.ofNat 0))))),(some (19,false)),262143⟩,
⟨(some 24),(.q (.pick (.t 19) (.c (.bool true)) (.t 23))),none,524287⟩,
⟨(some 25),(.q (.mv (.t 24))),none,1048575⟩,
⟨(some 26),(.q (.faddr 5 (.t 3))),(some (25,false)),2097151⟩,
⟨(some 27),(.q (.ld false 1 (.t 26))),(some (25,false)),4194303⟩,
⟨(some 28),(.q (.lenSl (.t 27))),(some (25,false)),8388607⟩,
⟨(some 29),(.q (.mv (.t 0))),(some (25,false)),2097151⟩,
⟨(some 30),(.q (.nilchk (.t 29))),(some (25,false)),18874367⟩,
⟨(some 31),(.q (.faddr 0 (.t 30))),(some (25,false)),52428799⟩,
⟨(some 32),(.q (.faddr 0 (.t 31))),(some (25,false)),119537663⟩,
⟨(some 33),(.q (.ld false 1 (.t 32))),(some (25,false)),253755391⟩,
⟨(some 34),(.q (.bin .neq (.p .int) (.t 28) (.t 33))),(some (25,false)),536870911⟩,
⟨(some 35),(.q (.pick (.t 25) (.c (.bool true)) (.t 34))),none,1073741823⟩])
(.cond (.t 35) (.seq (.reg [⟨(some 4),(.q (.mv (.c (.int .i64 (.ofNat 3))))),none,0⟩])
.ret) .skip))
(.seq (.reg [⟨(some 36),(.q (.faddr 5 (.t 3))),none,0⟩,
⟨(some 37),(.q (.ld false 1 (.t 36))),none,0⟩,
⟨(some 38),(.x (.call (.c (.fn 130 [] [])) [(.c (.int .i64 (.negSucc 999999))),(.c (.int .i64 (.ofNat 1000000))),(.t 37)])),none,0⟩,
⟨(some 4),(.q (.mv (.t 38))),none,0⟩])
.ret)))⟩
theorem row112 : Row Tryz.prog (112, a112) := ⟨Tryz.f112, Tryz.func112, by kernel_rfl⟩
noncomputable def a113 : AFn :=
⟨9,[(.t 4)],(.seq (.reg [⟨(some 4),(.q (.mv (.c (.bool false)))),none,0⟩])
(.seq (.reg [⟨(some 5),(.q (.mv (.t 0))),none,0⟩,
⟨(some 6),(.q (.mv (.t 1))),none,0⟩,
⟨(some 7),(.x (.call (.c (.fn 131 [] [])) [(.t 5),(.t 6)])),none,0⟩,
⟨(some 8),(.q (.bin .geq (.p .int) (.t 7) (.c (.int .i64 (.ofNat 0))))),none,0⟩,
⟨(some 4),(.q (.mv (.t 8))),none,0⟩])
.ret))⟩
theorem row113 : Row Tryz.prog (113, a113) := ⟨Tryz.f113, Tryz.func113, by kernel_rfl⟩
noncomputable def a114 : AFn :=
⟨21,[(.t 2)],(.seq (.reg [⟨(some 2),(.q (.mv (.c (.bool false)))),none,0⟩])
(.seq (.seq (.reg [⟨(some 4),(.q (.mv (.t 0))),none,0⟩,
⟨(some 5),(.q (.lenSl (.t 4))),none,0⟩,
⟨(some 6),(.q (.bin .sub (.p .int) (.t 5) (.c (.int .i64 (.ofNat 1))))),none,0⟩,
⟨(some 3),(.q (.mv (.t 6))),none,0⟩])
(.block 0 (.loop (.seq (.seq (.reg [⟨(some 7),(.q (.mv (.t 3))),none,0⟩,
⟨(some 8),(.q (.bin .gtr (.p .int) (.t 7) (.c (.int .i64 (.ofNat 0))))),none,0⟩])
(.cond (.t 8) .skip (.exit 0)))
(.seq (.block 1 (.seq (.drw [⟨(some 11),(.q (.mv (.t 0))),none,0⟩,
⟨(some 12),(.q (.mv (.t 3))),none,0⟩,
⟨(some 13),(.q (.iaddr (.slice 1) (.t 11) (.t 12))),none,3⟩,
⟨(some 14),(.q (.ld false 1 (.t 13))),none,7⟩,
⟨(some 15),(.q (.mv (.t 0))),none,0⟩,
⟨(some 16),(.q (.mv (.t 3))),none,0⟩,
⟨(some 17),(.q (.bin .sub (.p .int) (.t 16) (.c (.int .i64 (.ofNat 1))))),none,32⟩,
⟨(some 18),(.q (.iaddr (.slice 1) (.t 15) (.t 17))),none,112⟩,
⟨(some 19),(.q (.ld false 1 (.t 18))),none,240⟩,
⟨(some 20),(.x (.call (.c (.fn 132 [] [])) [(.t 14),(.t 19)])),none,511⟩])
(.cond (.t 20) (.seq (.reg [⟨(some 2),(.q (.mv (.c (.bool false)))),none,0⟩])
.ret) .skip)))
(.reg [⟨(some 9),(.q (.mv (.t 3))),none,0⟩,
⟨(some 10),(.q (.bin .sub (.p .int) (.t 9) (.c (.int .i64 (.ofNat 1))))),none,0⟩,
⟨(some 3),(.q (.mv (.t 10))),none,0⟩]))))))
(.seq (.reg [⟨(some 2),(.q (.mv (.c (.bool true)))),none,0⟩])
.ret)))⟩
theorem row114 : Row Tryz.prog (114, a114) := ⟨Tryz.f114, Tryz.func114, by kernel_rfl⟩
noncomputable def a115 : AFn :=
⟨16,[],(.seq (.reg [⟨(some 5),(.q (.ld false 1 (.t 1))),none,0⟩,
⟨(some 6),(.q (.lenSl (.t 5))),none,0⟩,
⟨(some 7),(.q (.mv (.c (.int .i64 (.ofNat 0))))),none,0⟩])
(.block 0 (.loop (.seq (.reg [⟨(some 8),(.q (.bin .lss (.p .int) (.t 7) (.t 6))),none,0⟩])
(.seq (.cond (.t 8) .skip (.exit 0))
(.seq (.block 1 (.seq (.reg [⟨(some 9),(.q (.iaddr (.slice 1) (.t 5) (.t 7))),none,0⟩,
⟨(some 10),(.q (.ld false 1 (.t 9))),none,0⟩,
⟨(some 4),(.q (.mv (.t 10))),none,0⟩])
(.seq (.reg [⟨(some 11),(.q (.mv (.t 0))),none,0⟩,
⟨(some 12),(.q (.mv (.t 4))),none,0⟩,
⟨(some 13),(.x (.call (.t 11) [(.t 12)])),none,0⟩,
⟨(some 14),(.q (.un .not (.t 13))),none,0⟩])
(.cond (.t 14) .ret .skip))))
(.reg [⟨(some 15),(.q (.bin .add (.p .int) (.t 7) (.c (.int .i64 (.ofNat 1))))),none,0⟩,
⟨(some 7),(.q (.mv (.t 15))),none,0⟩])))))))⟩
theorem row115 : Row Tryz.prog (115, a115) := ⟨Tryz.f115, Tryz.func115, by kernel_rfl⟩
noncomputable def a116 : AFn :=
⟨37,[(.t 4)],(.seq (.reg [⟨(some 4),(.q (.mv (.c (.int .u64 (.ofNat 0))))),none,0⟩])
(.seq (.seq (.reg [⟨(some 6),(.q (.mv (.t 0))),none,0⟩,
⟨(some 7),(.q (.bin .eql (.p .int) (.t 6) (.c (.int .u64 (.ofNat 0))))),none,0⟩])
(.cond (.t 7) (.seq (.reg [⟨(some 8),(.q (.mv (.t 1))),none,0⟩,
⟨(some 4),(.q (.mv (.t 8))),none,0⟩])
.ret) .skip))
(.seq (.seq (.reg [⟨(some 9),(.q (.mv (.t 1))),none,0⟩,
⟨(some 10),(.q (.bin .eql (.p .int) (.t 9) (.c (.int .u64 (.ofNat 0))))),none,0⟩])
(.cond (.t 10) (.seq (.reg [⟨(some 11),(.q (.mv (.t 0))),none,0⟩,
⟨(some 4),(.q (.mv (.t 11))),none,0⟩])
.ret) .skip))
(.seq (.reg [⟨(some 12),(.q (.mv (.t 0))),none,0⟩,
⟨(some 13),(.q (.mv (.t 1))),none,0⟩,
⟨(some 14),(.q (.bin .or (.p .int) (.t 12) (.t 13))),none,0⟩,
⟨(some 15),(.x (.call (.c (.fn 133 [] [])) [(.t 14)])),none,0⟩,
⟨(some 5),(.q (.mv (.t 15))),none,0⟩])
(.seq (.reg [⟨(some 16),(.q (.mv (.t 0))),none,0⟩,
⟨(some 17),(.q (.mv (.t 0))),none,0⟩,
⟨(some 18),(.x (.call (.c (.fn 133 [] [])) [(.t 17)])),none,0⟩,
⟨(some 19),(.q (.bin .shr (.p .int) (.t 16) (.t 18))),none,0⟩,
⟨(some 0),(.q (.mv (.t 19))),none,0⟩])
(.seq (.block 0 (.loop (.seq (.seq (.reg [⟨(some 20),(.q (.mv (.t 1))),none,0⟩,
⟨(some 21),(.q (.bin .neq (.p .int) (.t 20) (.c (.int .u64 (.ofNat 0))))),none,0⟩])
(.cond (.t 21) .skip (.exit 0)))
(.block 1 (.seq (.reg [⟨(some 22),(.q (.mv (.t 1))),none,0⟩,
⟨(some 23),(.q (.mv (.t 1))),none,0⟩,
⟨(some 24),(.x (.call (.c (.fn 133 [] [])) [(.t 23)])),none,0⟩,
⟨(some 25),(.q (.bin .shr (.p .int) (.t 22) (.t 24))),none,0⟩,
⟨(some 1),(.q (.mv (.t 25))),none,0⟩])
(.seq (.seq (.reg [⟨(some 26),(.q (.mv (.t 0))),none,0⟩,
⟨(some 27),(.q (.mv (.t 1))),none,0⟩,
⟨(some 28),(.q (.bin .gtr (.p .int) (.t 26) (.t 27))),none,0⟩])
(.cond (.t 28) (.reg [⟨(some 29),(.q (.mv (.t 1))),none,0⟩,
⟨(some 30),(.q (.mv (.t 0))),none,0⟩,
⟨(some 0),(.q (.mv (.t 29))),none,0⟩,
⟨(some 1),(.q (.mv (.t 30))),none,0⟩]) .skip))
(.reg [⟨(some 31),(.q (.mv (.t 1))),none,0⟩,
⟨(some 32),(.q (.mv (.t 0))),none,0⟩,
⟨(some 33),(.q (.bin .sub (.p .int) (.t 31) (.t 32))),none,0⟩,
⟨(some 1),(.q (.mv (.t 33))),none,0⟩])))))))
(.seq (.reg [⟨(some 34),(.q (.mv (.t 0))),none,0⟩,
⟨(some 35),(.q (.mv (.t 5))),none,0⟩,
⟨(some 36),(.q (.bin .shl (.p .int) (.t 34) (.t 35))),none,0⟩,
⟨(some 4),(.q (.mv (.t 36))),none,0⟩])
.ret)))))))⟩
theorem row116 : Row Tryz.prog (116, a116) := ⟨Tryz.f116, Tryz.func116, by kernel_rfl⟩
noncomputable def a117 : AFn :=
⟨12,[(.t 2)],(.seq (.reg [⟨(some 2),(.q (.mv (.c (.bool false)))),none,0⟩])
(.seq (.reg [⟨(some 3),(.q (.mv (.t 0))),none,0⟩,
⟨(some 4),(.q (.lenSl (.t 3))),none,0⟩,
⟨(some 5),(.q (.bin .eql (.p .int) (.t 4) (.c (.int .i64 (.ofNat 1))))),none,0⟩,
⟨(some 6),(.q (.mv (.t 5))),none,0⟩,
⟨(some 7),(.q (.mv (.t 0))),(some (6,true)),0⟩,
⟨(some 8),(.q (.iaddr (.slice 1) (.t 7) (.c (.int .i64 (.ofNat 0))))),(some (6,true)),0⟩,
⟨(some 9),(.q (.ld false 1 (.t 8))),(some (6,true)),0⟩,
⟨(some 10),(.q (.bin .eql (.p .int) (.t 9) (.c (.int .u32 (.ofNat 1))))),(some (6,true)),0⟩,
⟨(some 11),(.q (.pick (.t 6) (.t 10) (.c (.bool false)))),none,0⟩,
⟨(some 2),(.q (.mv (.t 11))),none,0⟩])
.ret))⟩
theorem row117 : Row Tryz.prog (117, a117) := ⟨Tryz.f117, Tryz.func117, by kernel_rfl⟩
noncomputable def a118 : AFn :=
⟨41,[(.t 4)],(.seq (.reg [⟨(some 4),(.q (.mv (.c (.int .i64 (.ofNat 0))))),none,0⟩])
(.seq (.seq (.reg [⟨(some 6),(.q (.mv (.t 0))),none,0⟩,
⟨(some 7),(.q (.lenSl (.t 6))),none,0⟩,
⟨(some 8),(.q (.mv (.t 1))),none,0⟩,
⟨(some 9),(.q (.lenSl (.t 8))),none,0⟩,
⟨(some 10),(.q (.bin .neq (.p .int) (.t 7) (.t 9))),none,0⟩])
(.cond (.t 10) (.seq (.seq (.reg [⟨(some 11),(.q (.mv (.t 0))),none,0⟩,
⟨(some 12),(.q (.lenSl (.t 11))),none,0⟩,
⟨(some 13),(.q (.mv (.t 1))),none,0⟩,
⟨(some 14),(.q (.lenSl (.t 13))),none,0⟩,
⟨(some 15),(.q (.bin .lss (.p .int) (.t 12) (.t 14))),none,0⟩])
(.cond (.t 15) (.seq (.reg [⟨(some 4),(.q (.mv (.c (.int .i64 (.negSucc 0))))),none,0⟩])
.ret) .skip))
(.seq (.reg [⟨(some 4),(.q (.mv (.c (.int .i64 (.ofNat 1))))),none,0⟩])
.ret)) .skip))
(.seq (.seq (.reg [⟨(some 16),(.q (.mv (.t 0))),none,0⟩,
⟨(some 17),(.q (.lenSl (.t 16))),none,0⟩,
⟨(some 18),(.q (.bin .sub (.p .int) (.t 17) (.c (.int .i64 (.ofNat 1))))),none,0⟩,
⟨(some 5),(.q (.mv (.t 18))),none,0⟩])
(.block 0 (.loop (.seq (.seq (.reg [⟨(some 19),(.q (.mv (.t 5))),none,0⟩,
⟨(some 20),(.q (.bin .geq (.p .int) (.t 19) (.c (.int .i64 (.ofNat 0))))),none,0⟩])
(.cond (.t 20) .skip (.exit 0)))
(.seq (.block 1 (.seq (.seq (.drw [⟨(some 23),(.q (.mv (.t 0))),none,0⟩,
⟨(some 24),(.q (.mv (.t 5))),none,0⟩,
⟨(some 25),(.q (.iaddr (.slice 1) (.t 23) (.t 24))),none,3⟩,
⟨(some 26),(.q (.ld false 1 (.t 25))),none,7⟩,
⟨(some 27),(.q (.mv (.t 1))),none,0⟩,
⟨(some 28),(.q (.mv (.t 5))),none,0⟩,
⟨(some 29),(.q (.iaddr (.slice 1) (.t 27) (.t 28))),none,48⟩,
⟨(some 30),(.q (.ld false 1 (.t 29))),none,112⟩,
⟨(some 31),(.q (.bin .lss (.p .int) (.t 26) (.t 30))),none,255⟩])
(.cond (.t 31) (.seq (.reg [⟨(some 4),(.q (.mv (.c (.int .i64 (.negSucc 0))))),none,0⟩])
.ret) .skip))
(.seq (.drw [⟨(some 32),(.q (.mv (.t 0))),none,0⟩,
⟨(some 33),(.q (.mv (.t 5))),none,0⟩,
⟨(some 34),(.q (.iaddr (.slice 1) (.t 32) (.t 33))),none,3⟩,
⟨(some 35),(.q (.ld false 1 (.t 34))),none,7⟩,
⟨(some 36),(.q (.mv (.t 1))),none,0⟩,
⟨(some 37),(.q (.mv (.t 5))),none,0⟩,
⟨(some 38),(.q (.iaddr (.slice 1) (.t 36) (.t 37))),none,48⟩,
⟨(some 39),(.q (.ld false 1 (.t 38))),none,112⟩,
⟨(some 40),(.q (.bin .gtr (.p .int) (.t 35) (.t 39))),none,255⟩])
(.cond (.t 40) (.seq (.reg [⟨(some 4),(.q (.mv (.c (.int .i64 (.ofNat 1))))),none,0⟩])
.ret) .skip))))
(.reg [⟨(some 21),(.q (.mv (.t 5))),none,0⟩,
⟨(some 22),(.q (.bin .sub (.p .int) (.t 21) (.c (.int .i64 (.ofNat 1))))),none,0⟩,
⟨(some 5),(.q (.mv (.t 22))),none,0⟩]))))))
(.seq (.reg [⟨(some 4),(.q (.mv (.c (.int .i64 (.ofNat 0))))),none,0⟩])
.ret))))⟩
theorem row118 : Row Tryz.prog (118, a118) := ⟨Tryz.f118, Tryz.func118, by kernel_rfl⟩
noncomputable def a119 : AFn :=
⟨69,[(.t 4),(.t 5),(.t 6),(.t 7)],(.seq (.reg [⟨(some 4),(.q (.mv (.c (.int .i64 (.ofNat 0))))),none,0⟩,
⟨(some 5),(.q (.mv (.c (.int .i64 (.ofNat 0))))),none,0⟩,
⟨(some 6),(.q (.mv (.c (.int .i64 (.ofNat 0))))),none,0⟩,
⟨(some 7),(.q (.mv (.c (.int .i64 (.ofNat 0))))),none,0⟩])
(.seq (.reg [⟨(some 4),(.q (.mv (.c (.int .i64 (.ofNat 1))))),none,0⟩,
⟨(some 5),(.q (.mv (.c (.int .i64 (.ofNat 0))))),none,0⟩,
⟨(some 6),(.q (.mv (.c (.int .i64 (.ofNat 0))))),none,0⟩,
⟨(some 7),(.q (.mv (.c (.int .i64 (.ofNat 1))))),none,0⟩])
(.seq (.block 0 (.loop (.seq (.seq (.reg [⟨(some 11),(.q (.mv (.t 1))),none,0⟩,
⟨(some 12),(.q (.mv (.t 6))),none,0⟩,
⟨(some 13),(.q (.bin .add (.p .int) (.t 11) (.t 12))),none,0⟩,
⟨(some 14),(.q (.bin .neq (.p .int) (.t 13) (.c (.int .i64 (.ofNat 0))))),none,0⟩,
⟨(some 15),(.q (.mv (.t 14))),none,0⟩,
⟨(some 16),(.q (.mv (.t 1))),(some (15,true)),0⟩,
⟨(some 17),(.q (.mv (.t 7))),(some (15,true)),0⟩,
⟨(some 18),(.q (.bin .add (.p .int) (.t 16) (.t 17))),(some (15,true)),0⟩,
⟨(some 19),(.q (.bin .neq (.p .int) (.t 18) (.c (.int .i64 (.ofNat 0))))),(some (15,true)),0⟩,
⟨(some 20),(.q (.pick (.t 15) (.t 19) (.c (.bool false)))),none,0⟩])
(.cond (.t 20) .skip (.exit 0)))
(.block 1 (.seq (.reg [⟨(some 21),(.q (.mv (.t 0))),none,0⟩,
⟨(some 22),(.q (.mv (.t 4))),none,0⟩,
⟨(some 23),(.q (.bin .add (.p .int) (.t 21) (.t 22))),none,0⟩,
⟨(some 24),(.q (.mv (.t 1))),none,0⟩,
⟨(some 25),(.q (.mv (.t 6))),none,0⟩,
⟨(some 26),(.q (.bin .add (.p .int) (.t 24) (.t 25))),none,0⟩,
⟨(some 27),(.q (.bin .quo (.p .int) (.t 23) (.t 26))),none,0⟩,
⟨(some 8),(.q (.mv (.t 27))),none,0⟩])
(.seq (.seq (.reg [⟨(some 28),(.q (.mv (.t 8))),none,0⟩,
⟨(some 29),(.q (.mv (.t 0))),none,0⟩,
⟨(some 30),(.q (.mv (.t 5))),none,0⟩,
⟨(some 31),(.q (.bin .add (.p .int) (.t 29) (.t 30))),none,0⟩,
⟨(some 32),(.q (.mv (.t 1))),none,0⟩,
⟨(some 33),(.q (.mv (.t 7))),none,0⟩,
⟨(some 34),(.q (.bin .add (.p .int) (.t 32) (.t 33))),none,0⟩,
⟨(some 35),(.q (.bin .quo (.p .int) (.t 31) (.t 34))),none,0⟩,
⟨(some 36),(.q (.bin .neq (.p .int) (.t 28) (.t 35))),none,0⟩])
(.cond (.t 36) (.exit 0) .skip))
(.seq (.reg [⟨(some 37),(.q (.mv (.t 4))),none,0⟩,
⟨(some 38),(.q (.mv (.t 8))),none,0⟩,
⟨(some 39),(.q (.mv (.t 6))),none,0⟩,
⟨(some 40),(.q (.bin .mul (.p .int) (.t 38) (.t 39))),none,0⟩,
⟨(some 41),(.q (.bin .sub (.p .int) (.t 37) (.t 40))),none,0⟩,
⟨(some 42),(.q (.mv (.t 5))),none,0⟩,
⟨(some 43),(.q (.mv (.t 8))),none,0⟩,
⟨(some 44),(.q (.mv (.t 7))),none,0⟩,
⟨(some 45),(.q (.bin .mul (.p .int) (.t 43) (.t 44))),none,0⟩,
⟨(some 46),(.q (.bin .sub (.p .int) (.t 42) (.t 45))),none,0⟩,
⟨(some 9),(.q (.mv (.t 41))),none,0⟩,
⟨(some 10),(.q (.mv (.t 46))),none,0⟩])
(.seq (.seq (.reg [⟨(some 47),(.q (.mv (.t 9))),none,0⟩,
⟨(some 48),(.q (.mv (.t 9))),none,0⟩,
⟨(some 49),(.q (.un .neg (.t 48))),none,0⟩,
⟨(some 50),(.q (.mv (.t 10))),none,0⟩,
⟨(some 51),(.q (.mv (.t 10))),none,0⟩,
⟨(some 52),(.q (.un .neg (.t 51))),none,0⟩,
⟨(some 53),(.q (.minmax true [(.t 47),(.t 49),(.t 50),(.t 52)])),none,0⟩,
⟨(some 54),(.q (.bin .geq (.p .int) (.t 53) (.c (.int .i64 (.ofNat 1000000000))))),none,0⟩])
(.cond (.t 54) (.exit 0) .skip))
(.seq (.reg [⟨(some 55),(.q (.mv (.t 6))),none,0⟩,
⟨(some 56),(.q (.mv (.t 7))),none,0⟩,
⟨(some 57),(.q (.mv (.t 9))),none,0⟩,
⟨(some 58),(.q (.mv (.t 10))),none,0⟩,
⟨(some 4),(.q (.mv (.t 55))),none,0⟩,
⟨(some 5),(.q (.mv (.t 56))),none,0⟩,
⟨(some 6),(.q (.mv (.t 57))),none,0⟩,
⟨(some 7),(.q (.mv (.t 58))),none,0⟩])
(.reg [⟨(some 59),(.q (.mv (.t 1))),none,0⟩,
⟨(some 60),(.q (.mv (.t 0))),none,0⟩,
⟨(some 61),(.q (.mv (.t 8))),none,0⟩,
⟨(some 62),(.q (.mv (.t 1))),none,0⟩,
⟨(some 63),(.q (.bin .mul (.p .int) (.t 61) (.t 62))),none,0⟩,
⟨(some 64),(.q (.bin .sub (.p .int) (.t 60) (.t 63))),none,0⟩,
⟨(some 0),(.q (.mv (.t 59))),none,0⟩,
⟨(some 1),(.q (.mv (.t 64))),none,0⟩]))))))))))
(.seq (.reg [⟨(some 65),(.q (.mv (.t 4))),none,0⟩,
⟨(some 66),(.q (.mv (.t 5))),none,0⟩,
⟨(some 67),(.q (.mv (.t 6))),none,0⟩,
⟨(some 68),(.q (.mv (.t 7))),none,0⟩,
⟨(some 4),(.q (.mv (.t 65))),none,0⟩,
⟨(some 5),(.q (.mv (.t 66))),none,0⟩,
⟨(some 6),(.q (.mv (.t 67))),none,0⟩,
⟨(some 7),(.q (.mv (.t 68))),none,0⟩])
.ret))))⟩
theorem row119 : Row Tryz.prog (119, a119) := ⟨Tryz.f119, Tryz.func119, by kernel_rfl⟩
noncomputable def a120 : AFn :=
⟨30,[(.t 4),(.t 5)],(.seq (.reg [⟨(some 4),(.q (.mv (.c (.int .i64 (.ofNat 0))))),none,0⟩,
⟨(some 5),(.q (.mv (.c (.int .i64 (.ofNat 0))))),none,0⟩])
(.seq (.reg [⟨(some 9),(.q (.mv (.t 0))),none,0⟩,
⟨(some 10),(.q (.lenSl (.t 9))),none,0⟩,
⟨(some 6),(.a (.alloc 3 [(.int .i64 (.ofNat 0))])),none,0⟩,
⟨none,(.x (.st 1 (.t 6) (.t 10))),none,0⟩])
(.seq (.reg [⟨(some 7),(.a (.alloc 131 [(.int .u64 (.ofNat 0))])),none,0⟩,
⟨none,(.x (.st 1 (.t 7) (.c (.int .u64 (.ofNat 1))))),none,0⟩])
(.seq (.block 0 (.loop (.seq (.seq (.drw [⟨(some 11),(.q (.mv (.t 0))),none,0⟩,
⟨(some 12),(.q (.ld false 1 (.t 6))),none,0⟩,
⟨(some 13),(.q (.bin .sub (.p .int) (.t 12) (.c (.int .i64 (.ofNat 1))))),none,2⟩,
⟨(some 14),(.q (.iaddr (.slice 1) (.t 11) (.t 13))),none,7⟩,
⟨(some 15),(.q (.ld false 1 (.t 14))),none,15⟩,
⟨(some 16),(.q (.conv (.int .u64) (.t 15))),none,31⟩,
⟨(some 17),(.q (.ld false 1 (.t 7))),none,0⟩,
⟨(some 18),(.q (.bin .mul (.p .int) (.t 16) (.t 17))),none,127⟩,
⟨(some 19),(.q (.bin .mul (.p .int) (.t 18) (.c (.int .u64 (.ofNat 10))))),none,255⟩,
⟨(some 20),(.q (.bin .lss (.p .int) (.t 19) (.c (.int .u64 (.ofNat 1000000000))))),none,511⟩])
(.cond (.t 20) .skip (.exit 0)))
(.block 1 (.reg [⟨(some 21),(.q (.ld false 1 (.t 7))),none,0⟩,
⟨(some 22),(.q (.bin .mul (.p .int) (.t 21) (.c (.int .u64 (.ofNat 10))))),none,0⟩,
⟨none,(.x (.st 1 (.t 7) (.t 22))),none,0⟩])))))
(.seq (.reg [⟨(some 23),(.q (.mkFunc 134 [] [(.t 6),(.t 7)])),none,0⟩,
⟨(some 8),(.q (.mv (.t 23))),none,0⟩])
(.seq (.reg [⟨(some 24),(.q (.mv (.t 8))),none,0⟩,
⟨(some 25),(.q (.mv (.t 0))),none,0⟩,
⟨(some 26),(.x (.call (.t 24) [(.t 25)])),none,0⟩,
⟨(some 27),(.q (.mv (.t 8))),none,0⟩,
⟨(some 28),(.q (.mv (.t 1))),none,0⟩,
⟨(some 29),(.x (.call (.t 27) [(.t 28)])),none,0⟩,
⟨(some 4),(.q (.mv (.t 26))),none,0⟩,
⟨(some 5),(.q (.mv (.t 29))),none,0⟩])
.ret))))))⟩
theorem row120 : Row Tryz.prog (120, a120) := ⟨Tryz.f120, Tryz.func120, by kernel_rfl⟩
noncomputable def a121 : AFn :=
⟨93,[(.t 4),(.t 5)],(.seq (.reg [⟨(some 4),(.q (.mv (.c .nilsl))),none,0⟩,
⟨(some 5),(.q (.mv (.c .nilsl))),none,0⟩])
(.seq (.seq (.reg [⟨(some 13),(.q (.mv (.t 0))),none,0⟩,
⟨(some 14),(.q (.mv (.t 1))),none,0⟩,
⟨(some 15),(.x (.call (.c (.fn 118 [] [])) [(.t 13),(.t 14)])),none,0⟩,
⟨(some 16),(.q (.bin .lss (.p .int) (.t 15) (.c (.int .i64 (.ofNat 0))))),none,0⟩])
(.cond (.t 16) (.seq (.reg [⟨(some 17),(.q (.mv (.t 0))),none,0⟩,
⟨(some 18),(.x (.call (.c (.fn 101 [] [])) [(.t 17)])),none,0⟩,
⟨(some 4),(.q (.mv (.c .nilsl))),none,0⟩,
⟨(some 5),(.q (.mv (.t 18))),none,0⟩])
.ret) .skip))
(.seq (.seq (.reg [⟨(some 19),(.q (.mv (.t 1))),none,0⟩,
⟨(some 20),(.q (.lenSl (.t 19))),none,0⟩,
⟨(some 21),(.q (.bin .eql (.p .int) (.t 20) (.c (.int .i64 (.ofNat 1))))),none,0⟩])
(.cond (.t 21) (.seq (.reg [⟨(some 23),(.q (.mv (.t 0))),none,0⟩,
⟨(some 24),(.q (.mv (.t 1))),none,0⟩,
⟨(some 25),(.q (.iaddr (.slice 1) (.t 24) (.c (.int .i64 (.ofNat 0))))),none,0⟩,
⟨(some 26),(.q (.ld false 1 (.t 25))),none,0⟩,
⟨(some 27),(.x (.call (.c (.fn 136 [] [])) [(.t 23),(.t 26)])),none,0⟩,
⟨(some 22),(.q (.mv (.t 27))),none,0⟩,
⟨(some 28),(.q (.extract (.t 22) 0)),none,0⟩,
⟨(some 29),(.q (.extract (.t 22) 1)),none,0⟩,
⟨(some 6),(.q (.mv (.t 28))),none,0⟩,
⟨(some 7),(.q (.mv (.t 29))),none,0⟩])
(.seq (.reg [⟨(some 30),(.q (.mv (.t 6))),none,0⟩,
⟨(some 31),(.q (.mv (.t 7))),none,0⟩,
⟨(some 32),(.q (.conv (.int .u64) (.t 31))),none,0⟩,
⟨(some 33),(.x (.call (.c (.fn 82 [] [])) [(.t 32)])),none,0⟩,
⟨(some 4),(.q (.mv (.t 30))),none,0⟩,
⟨(some 5),(.q (.mv (.t 33))),none,0⟩])
.ret)) .skip))
(.seq (.reg [⟨(some 34),(.q (.mv (.t 1))),none,0⟩,
⟨(some 35),(.q (.lenSl (.t 34))),none,0⟩,
⟨(some 8),(.q (.mv (.t 35))),none,0⟩])
(.seq (.reg [⟨(some 36),(.q (.mv (.t 1))),none,0⟩,
⟨(some 37),(.q (.mv (.t 8))),none,0⟩,
⟨(some 38),(.q (.bin .sub (.p .int) (.t 37) (.c (.int .i64 (.ofNat 1))))),none,0⟩,
⟨(some 39),(.q (.iaddr (.slice 1) (.t 36) (.t 38))),none,0⟩,
⟨(some 40),(.q (.ld false 1 (.t 39))),none,0⟩,
⟨(some 41),(.q (.conv (.int .u64) (.t 40))),none,0⟩,
⟨(some 42),(.q (.bin .add (.p .int) (.t 41) (.c (.int .u64 (.ofNat 1))))),none,0⟩,
⟨(some 43),(.q (.bin .quo (.p .int) (.c (.int .u64 (.ofNat 1000000000))) (.t 42))),none,0⟩,
⟨(some 9),(.q (.mv (.t 43))),none,0⟩])
(.seq (.reg [⟨(some 44),(.q (.mv (.t 0))),none,0⟩,
⟨(some 45),(.q (.mv (.t 9))),none,0⟩,
⟨(some 46),(.q (.mv (.t 0))),none,0⟩,
⟨(some 47),(.q (.lenSl (.t 46))),none,0⟩,
⟨(some 48),(.q (.bin .add (.p .int) (.t 47) (.c (.int .i64 (.ofNat 1))))),none,0⟩,
⟨(some 49),(.x (.call (.c (.fn 137 [] [])) [(.t 44),(.t 45),(.t 48)])),none,0⟩,
⟨(some 10),(.q (.mv (.t 49))),none,0⟩])
(.seq (.reg [⟨(some 50),(.q (.mv (.t 1))),none,0⟩,
⟨(some 51),(.q (.mv (.t 9))),none,0⟩,
⟨(some 52),(.q (.mv (.t 8))),none,0⟩,
⟨(some 53),(.x (.call (.c (.fn 137 [] [])) [(.t 50),(.t 51),(.t 52)])),none,0⟩,
⟨(some 11),(.q (.mv (.t 53))),none,0⟩])
(.seq (.reg [⟨(some 54),(.q (.mv (.t 0))),none,0⟩,
⟨(some 55),(.q (.lenSl (.t 54))),none,0⟩,
⟨(some 56),(.q (.mv (.t 8))),none,0⟩,
⟨(some 57),(.q (.bin .sub (.p .int) (.t 55) (.t 56))),none,0⟩,
⟨(some 58),(.q (.bin .add (.p .int) (.t 57) (.c (.int .i64 (.ofNat 1))))),none,0⟩,
⟨(some 59),(.a (.mkSlice 97 1 4 [(.int .u32 (.ofNat 0))] (.t 58) (.t 58))),none,0⟩,
⟨(some 4),(.q (.mv (.t 59))),none,0⟩])
(.seq (.seq (.reg [⟨(some 60),(.q (.mv (.t 0))),none,0⟩,
⟨(some 61),(.q (.lenSl (.t 60))),none,0⟩,
⟨(some 62),(.q (.mv (.t 8))),none,0⟩,
⟨(some 63),(.q (.bin .sub (.p .int) (.t 61) (.t 62))),none,0⟩,
⟨(some 12),(.q (.mv (.t 63))),none,0⟩])
(.block 0 (.loop (.seq (.seq (.reg [⟨(some 64),(.q (.mv (.t 12))),none,0⟩,
⟨(some 65),(.q (.bin .geq (.p .int) (.t 64) (.c (.int .i64 (.ofNat 0))))),none,0⟩])
(.cond (.t 65) .skip (.exit 0)))
(.seq (.block 1 (.reg [⟨(some 68),(.q (.mv (.t 4))),none,0⟩,
⟨(some 69),(.q (.mv (.t 12))),none,0⟩,
⟨(some 70),(.q (.mv (.t 10))),none,0⟩,
⟨(some 71),(.q (.mv (.t 12))),none,0⟩,
⟨(some 72),(.q (.mv (.t 12))),none,0⟩,
⟨(some 73),(.q (.mv (.t 8))),none,0⟩,
⟨(some 74),(.q (.bin .add (.p .int) (.t 72) (.t 73))),none,0⟩,
⟨(some 75),(.q (.bin .add (.p .int) (.t 74) (.c (.int .i64 (.ofNat 1))))),none,0⟩,
⟨(some 76),(.q (.slc (.slice 1) (.t 70) (some (.t 71)) (some (.t 75)) none)),none,0⟩,
⟨(some 77),(.q (.mv (.t 11))),none,0⟩,
⟨(some 78),(.x (.call (.c (.fn 138 [] [])) [(.t 76),(.t 77)])),none,0⟩,
⟨(some 79),(.q (.iaddr (.slice 1) (.t 68) (.t 69))),none,0⟩,
⟨none,(.x (.st 1 (.t 79) (.t 78))),none,0⟩]))
(.reg [⟨(some 66),(.q (.mv (.t 12))),none,0⟩,
⟨(some 67),(.q (.bin .sub (.p .int) (.t 66) (.c (.int .i64 (.ofNat 1))))),none,0⟩,
⟨(some 12),(.q (.mv (.t 67))),none,0⟩]))))))
(.seq (.reg [⟨(some 81),(.q (.mv (.t 10))),none,0⟩,
⟨(some 82),(.q (.mv (.t 8))),none,0⟩,
⟨(some 83),(.q (.slc (.slice 1) (.t 81) none (some (.t 82)) none)),none,0⟩,
⟨(some 84),(.x (.call (.c (.fn 139 [] [])) [(.t 83)])),none,0⟩,
⟨(some 85),(.q (.mv (.t 9))),none,0⟩,
⟨(some 86),(.q (.conv (.int .u32) (.t 85))),none,0⟩,
⟨(some 87),(.x (.call (.c (.fn 136 [] [])) [(.t 84),(.t 86)])),none,0⟩,
⟨(some 80),(.q (.mv (.t 87))),none,0⟩,
⟨(some 88),(.q (.extract (.t 80) 0)),none,0⟩,
⟨(some 89),(.q (.extract (.t 80) 1)),none,0⟩,
⟨(some 5),(.q (.mv (.t 88))),none,0⟩])
(.seq (.reg [⟨(some 90),(.q (.mv (.t 4))),none,0⟩,
⟨(some 91),(.x (.call (.c (.fn 139 [] [])) [(.t 90)])),none,0⟩,
⟨(some 92),(.q (.mv (.t 5))),none,0⟩,
⟨(some 4),(.q (.mv (.t 91))),none,0⟩,
⟨(some 5),(.q (.mv (.t 92))),none,0⟩])
.ret)))))))))))⟩
theorem row121 : Row Tryz.prog (121, a121) := ⟨Tryz.f121, Tryz.func121, by kernel_rfl⟩
noncomputable def a122 : AFn :=
⟨63,[(.t 8)],(.seq (.reg [⟨(some 8),(.q (.mv (.c .nilsl))),none,0⟩])
(.seq (.reg [⟨(some 13),(.q (.mv (.t 0))),none,0⟩,
⟨(some 14),(.q (.lenSl (.t 13))),none,0⟩,
⟨(some 15),(.a (.mkSlice 97 1 4 [(.int .u32 (.ofNat 0))] (.t 14) (.t 14))),none,0⟩,
⟨(some 9),(.q (.mv (.t 15))),none,0⟩])
(.seq (.reg [⟨(some 10),(.q (.mv (.c (.int .i64 (.ofNat 0))))),none,0⟩])
(.seq (.seq (.reg [⟨(some 16),(.q (.mv (.t 0))),none,0⟩,
⟨(some 17),(.q (.lenSl (.t 16))),none,0⟩,
⟨(some 18),(.q (.mv (.c (.int .i64 (.ofNat 0))))),none,0⟩])
(.block 0 (.loop (.seq (.reg [⟨(some 19),(.q (.bin .lss (.p .int) (.t 18) (.t 17))),none,0⟩])
(.seq (.cond (.t 19) .skip (.exit 0))
(.seq (.block 1 (.seq (.reg [⟨(some 20),(.q (.mv (.t 18))),none,0⟩,
⟨(some 11),(.q (.mv (.t 20))),none,0⟩])
(.seq (.reg [⟨(some 21),(.q (.mv (.t 2))),none,0⟩,
⟨(some 22),(.q (.mv (.t 0))),none,0⟩,
⟨(some 23),(.q (.mv (.t 11))),none,0⟩,
⟨(some 24),(.q (.iaddr (.slice 1) (.t 22) (.t 23))),none,0⟩,
⟨(some 25),(.q (.ld false 1 (.t 24))),none,0⟩,
⟨(some 26),(.q (.conv (.int .i64) (.t 25))),none,0⟩,
⟨(some 27),(.q (.bin .mul (.p .int) (.t 21) (.t 26))),none,0⟩,
⟨(some 28),(.q (.mv (.t 10))),none,0⟩,
⟨(some 29),(.q (.bin .add (.p .int) (.t 27) (.t 28))),none,0⟩,
⟨(some 12),(.q (.mv (.t 29))),none,0⟩])
(.seq (.seq (.reg [⟨(some 30),(.q (.mv (.t 11))),none,0⟩,
⟨(some 31),(.q (.mv (.t 1))),none,0⟩,
⟨(some 32),(.q (.lenSl (.t 31))),none,0⟩,
⟨(some 33),(.q (.bin .lss (.p .int) (.t 30) (.t 32))),none,0⟩])
(.cond (.t 33) (.reg [⟨(some 34),(.q (.mv (.t 12))),none,0⟩,
⟨(some 35),(.q (.mv (.t 3))),none,0⟩,
⟨(some 36),(.q (.mv (.t 1))),none,0⟩,
⟨(some 37),(.q (.mv (.t 11))),none,0⟩,
⟨(some 38),(.q (.iaddr (.slice 1) (.t 36) (.t 37))),none,0⟩,
⟨(some 39),(.q (.ld false 1 (.t 38))),none,0⟩,
⟨(some 40),(.q (.conv (.int .i64) (.t 39))),none,0⟩,
⟨(some 41),(.q (.bin .mul (.p .int) (.t 35) (.t 40))),none,0⟩,
⟨(some 42),(.q (.bin .add (.p .int) (.t 34) (.t 41))),none,0⟩,
⟨(some 12),(.q (.mv (.t 42))),none,0⟩]) .skip))
(.seq (.reg [⟨(some 43),(.q (.mv (.t 12))),none,0⟩,
⟨(some 44),(.q (.bin .quo (.p .int) (.t 43) (.c (.int .i64 (.ofNat 1000000000))))),none,0⟩,
⟨(some 10),(.q (.mv (.t 44))),none,0⟩])
(.seq (.reg [⟨(some 45),(.q (.mv (.t 12))),none,0⟩,
⟨(some 46),(.q (.mv (.t 10))),none,0⟩,
⟨(some 47),(.q (.bin .mul (.p .int) (.t 46) (.c (.int .i64 (.ofNat 1000000000))))),none,0⟩,
⟨(some 48),(.q (.bin .sub (.p .int) (.t 45) (.t 47))),none,0⟩,
⟨(some 12),(.q (.mv (.t 48))),none,0⟩])
(.seq (.seq (.reg [⟨(some 49),(.q (.mv (.t 12))),none,0⟩,
⟨(some 50),(.q (.bin .lss (.p .int) (.t 49) (.c (.int .i64 (.ofNat 0))))),none,0⟩])
(.cond (.t 50) (.seq (.reg [⟨(some 51),(.q (.mv (.t 12))),none,0⟩,
⟨(some 52),(.q (.bin .add (.p .int) (.t 51) (.c (.int .i64 (.ofNat 1000000000))))),none,0⟩,
⟨(some 12),(.q (.mv (.t 52))),none,0⟩])
(.reg [⟨(some 53),(.q (.mv (.t 10))),none,0⟩,
⟨(some 54),(.q (.bin .sub (.p .int) (.t 53) (.c (.int .i64 (.ofNat 1))))),none,0⟩,
⟨(some 10),(.q (.mv (.t 54))),none,0⟩])) .skip))
(.reg [⟨(some 55),(.q (.mv (.t 9))),none,0⟩,
⟨(some 56),(.q (.mv (.t 11))),none,0⟩,
⟨(some 57),(.q (.mv (.t 12))),none,0⟩,
⟨(some 58),(.q (.conv (.int .u32) (.t 57))),none,0⟩,
⟨(some 59),(.q (.iaddr (.slice 1) (.t 55) (.t 56))),none,0⟩,
⟨none,(.x (.st 1 (.t 59) (.t 58))),none,0⟩]))))))))
(.reg [⟨(some 60),(.q (.bin .add (.p .int) (.t 18) (.c (.int .i64 (.ofNat 1))))),none,0⟩,
⟨(some 18),(.q (.mv (.t 60))),none,0⟩])))))))
(.seq (.reg [⟨(some 61),(.q (.mv (.t 9))),none,0⟩,
⟨(some 62),(.x (.call (.c (.fn 139 [] [])) [(.t 61)])),none,0⟩,
⟨(some 8),(.q (.mv (.t 62))),none,0⟩])
.ret)))))⟩
theorem row122 : Row Tryz.prog (122, a122) := ⟨Tryz.f122, Tryz.func122, by kernel_rfl⟩
noncomputable def a123 : AFn :=
⟨28,[(.t 2)],(.seq (.reg [⟨(some 1),(.a (.box 46 (.t 0))),none,0⟩,
⟨(some 2),(.q (.mv (.c (.int .i64 (.ofNat 0))))),none,0⟩])
(.seq (.seq (.reg [⟨(some 4),(.q (.faddr 1 (.t 1))),none,0⟩,
⟨(some 5),(.q (.ld false 1 (.t 4))),none,0⟩,
⟨(some 6),(.q (.faddr 2 (.t 1))),none,0⟩,
⟨(some 7),(.q (.ld false 1 (.t 6))),none,0⟩,
⟨(some 8),(.x (.call (.c (.fn 140 [] [])) [(.t 5),(.t 7)])),none,0⟩,
⟨(some 3),(.q (.mv (.t 8))),none,0⟩])
(.seq (.reg [⟨(some 9),(.q (.mv (.t 3))),none,0⟩,
⟨(some 10),(.q (.bin .neq (.p .int) (.t 9) (.c (.int .i64 (.ofNat 0))))),none,0⟩])
(.cond (.t 10) (.seq (.reg [⟨(some 11),(.q (.mv (.t 3))),none,0⟩,
⟨(some 2),(.q (.mv (.t 11))),none,0⟩])
.ret) .skip)))
(.seq (.seq (.reg [⟨(some 12),(.q (.faddr 1 (.t 1))),none,0⟩,
⟨(some 13),(.q (.ld false 1 (.t 12))),none,0⟩,
⟨(some 14),(.q (.lenSl (.t 13))),none,0⟩,
⟨(some 15),(.q (.bin .eql (.p .int) (.t 14) (.c (.int .i64 (.ofNat 0))))),none,0⟩,
⟨(some 16),(.q (.mv (.t 15))),none,0⟩,
⟨(some 17),(.q (.faddr 0 (.t 1))),(some (16,true)),0⟩,
⟨(some 18),(.q (.ld false 1 (.t 17))),(some (16,true)),0⟩,
⟨(some 19),(.q (.pick (.t 16) (.t 18) (.c (.bool false)))),none,0⟩,
⟨(some 20),(.q (.mv (.t 19))),none,0⟩,
⟨(some 21),(.q (.faddr 1 (.t 1))),(some (20,false)),0⟩,
⟨(some 22),(.q (.ld false 1 (.t 21))),(some (20,false)),0⟩,
⟨(some 23),(.q (.faddr 2 (.t 1))),(some (20,false)),0⟩,
⟨(some 24),(.q (.ld false 1 (.t 23))),(some (20,false)),0⟩,
⟨(some 25),(.x (.call (.c (.fn 141 [] [])) [(.t 22),(.t 24)])),(some (20,false)),0⟩,
⟨(some 26),(.q (.un .not (.t 25))),(some (20,false)),0⟩,
⟨(some 27),(.q (.pick (.t 20) (.c (.bool true)) (.t 26))),none,0⟩])
(.cond (.t 27) (.seq (.reg [⟨(some 2),(.q (.mv (.c (.int .i64 (.ofNat 3))))),none,0⟩])
.ret) .skip))
(.seq (.reg [⟨(some 2),(.q (.mv (.c (.int .i64 (.ofNat 0))))),none,0⟩])
.ret))))⟩
theorem row123 : Row Tryz.prog (123, a123) := ⟨Tryz.f123, Tryz.func123, by kernel_rfl⟩
noncomputable def a124 : AFn :=
⟨26,[(.cell 2 true 3)],(.seq (.reg [⟨(some 1),(.a (.box 158 (.t 0))),none,0⟩,
⟨(some 2),(.a (.alloc 46 [(.bool false),.nilsl,.nilsl])),none,0⟩])
(.seq (.seq (.reg [⟨(some 3),(.q (.faddr 3 (.t 1))),none,0⟩,
⟨(some 4),(.q (.faddr 1 (.t 3))),none,0⟩,
⟨(some 5),(.q (.ld false 1 (.t 4))),none,0⟩,
⟨(some 6),(.x (.call (.c (.fn 117 [] [])) [(.t 5)])),none,0⟩,
⟨(some 7),(.q (.mv (.t 6))),none,0⟩,
⟨(some 8),(.q (.faddr 3 (.t 1))),(some (7,true)),0⟩,
⟨(some 9),(.q (.faddr 2 (.t 8))),(some (7,true)),0⟩,
⟨(some 10),(.q (.ld false 1 (.t 9))),(some (7,true)),0⟩,
⟨(some 11),(.x (.call (.c (.fn 117 [] [])) [(.t 10)])),(some (7,true)),0⟩,
⟨(some 12),(.q (.pick (.t 7) (.t 11) (.c (.bool false)))),none,0⟩,
⟨(some 13),(.q (.mv (.t 12))),none,0⟩,
⟨(some 14),(.q (.faddr 3 (.t 1))),(some (13,true)),0⟩,
⟨(some 15),(.q (.faddr 0 (.t 14))),(some (13,true)),0⟩,
⟨(some 16),(.q (.ld false 1 (.t 15))),(some (13,true)),0⟩,
⟨(some 17),(.q (.un .not (.t 16))),(some (13,true)),0⟩,
⟨(some 18),(.q (.pick (.t 13) (.t 17) (.c (.bool false)))),none,0⟩])
(.cond (.t 18) (.seq (.reg [⟨(some 19),(.q (.faddr 0 (.t 1))),none,0⟩,
⟨(some 20),(.q (.ld true 3 (.t 19))),none,0⟩,
⟨none,(.x (.st 3 (.t 2) (.t 20))),none,0⟩])
.ret) .skip))
(.seq (.reg [⟨(some 21),(.q (.faddr 0 (.t 1))),none,0⟩,
⟨(some 22),(.q (.ld true 3 (.t 21))),none,0⟩,
⟨(some 23),(.q (.faddr 3 (.t 1))),none,0⟩,
⟨(some 24),(.q (.ld true 3 (.t 23))),none,0⟩,
⟨(some 25),(.x (.call (.c (.fn 125 [] [])) [(.t 22),(.t 24)])),none,0⟩,
⟨none,(.x (.st 3 (.t 2) (.t 25))),none,0⟩])
.ret)))⟩
theorem row124 : Row Tryz.prog (124, a124) := ⟨Tryz.f124, Tryz.func124, by kernel_rfl⟩
noncomputable def a125 : AFn :=
⟨83,[(.cell 4 true 3)],(.seq (.reg [⟨(some 2),(.a (.box 46 (.t 0))),none,0⟩,
⟨(some 3),(.a (.box 46 (.t 1))),none,0⟩,
⟨(some 4),(.a (.alloc 46 [(.bool false),.nilsl,.nilsl])),none,0⟩])
(.seq (.seq (.reg [⟨(some 9),(.q (.faddr 1 (.t 2))),none,0⟩,
⟨(some 10),(.q (.ld false 1 (.t 9))),none,0⟩,
⟨(some 11),(.q (.lenSl (.t 10))),none,0⟩,
⟨(some 12),(.q (.bin .eql (.p .int) (.t 11) (.c (.int .i64 (.ofNat 0))))),none,0⟩,
⟨(some 13),(.q (.mv (.t 12))),none,0⟩,
⟨(some 14),(.q (.faddr 1 (.t 3))),(some (13,false)),0⟩,
⟨(some 15),(.q (.ld false 1 (.t 14))),(some (13,false)),0⟩,
⟨(some 16),(.q (.lenSl (.t 15))),(some (13,false)),0⟩,
⟨(some 17),(.q (.bin .eql (.p .int) (.t 16) (.c (.int .i64 (.ofNat 0))))),(some (13,false)),0⟩,
⟨(some 18),(.q (.pick (.t 13) (.c (.bool true)) (.t 17))),none,0⟩])
(.cond (.t 18) (.seq (.reg [⟨(some 19),(.x (.call (.c (.fn 97 [] [])) [])),none,0⟩,
⟨none,(.x (.st 3 (.t 4) (.t 19))),none,0⟩])
.ret) .skip))
(.seq (.reg [⟨(some 20),(.q (.faddr 0 (.t 2))),none,0⟩,
⟨(some 21),(.q (.ld false 1 (.t 20))),none,0⟩,
⟨(some 22),(.q (.faddr 0 (.t 3))),none,0⟩,
⟨(some 23),(.q (.ld false 1 (.t 22))),none,0⟩,
⟨(some 24),(.q (.bin .neq (.p .bool) (.t 21) (.t 23))),none,0⟩,
⟨(some 5),(.q (.mv (.t 24))),none,0⟩])
(.seq (.seq (.reg [⟨(some 25),(.q (.ld true 3 (.t 2))),none,0⟩,
⟨(some 26),(.q (.ld true 3 (.t 3))),none,0⟩,
⟨(some 27),(.x (.call (.c (.fn 142 [] [])) [(.t 25),(.t 26)])),none,0⟩])
(.cond (.t 27) (.seq (.drw [⟨(some 28),(.q (.mv (.t 5))),none,0⟩,
⟨(some 29),(.q (.faddr 1 (.t 2))),none,0⟩,
⟨(some 30),(.q (.ld false 1 (.t 29))),none,2⟩,
⟨(some 31),(.q (.iaddr (.slice 1) (.t 30) (.c (.int .i64 (.ofNat 0))))),none,6⟩,
⟨(some 32),(.q (.ld false 1 (.t 31))),none,14⟩,
⟨(some 33),(.q (.conv (.int .u64) (.t 32))),none,30⟩,
⟨(some 34),(.q (.faddr 1 (.t 3))),none,0⟩,
⟨(some 35),(.q (.ld false 1 (.t 34))),none,64⟩,
⟨(some 36),(.q (.iaddr (.slice 1) (.t 35) (.c (.int .i64 (.ofNat 0))))),none,192⟩,
⟨(some 37),(.q (.ld false 1 (.t 36))),none,448⟩,
⟨(some 38),(.q (.conv (.int .u64) (.t 37))),none,960⟩,
⟨(some 39),(.q (.bin .mul (.p .int) (.t 33) (.t 38))),none,2046⟩,
⟨(some 40),(.q (.faddr 2 (.t 2))),none,0⟩,
⟨(some 41),(.q (.ld false 1 (.t 40))),none,4096⟩,
⟨(some 42),(.q (.iaddr (.slice 1) (.t 41) (.c (.int .i64 (.ofNat 0))))),none,12288⟩,
⟨(some 43),(.q (.ld false 1 (.t 42))),none,28672⟩,
⟨(some 44),(.q (.conv (.int .u64) (.t 43))),none,61440⟩,
⟨(some 45),(.q (.faddr 2 (.t 3))),none,0⟩,
⟨(some 46),(.q (.ld false 1 (.t 45))),none,131072⟩,
⟨(some 47),(.q (.iaddr (.slice 1) (.t 46) (.c (.int .i64 (.ofNat 0))))),none,393216⟩,
⟨(some 48),(.q (.ld false 1 (.t 47))),none,917504⟩,
⟨(some 49),(.q (.conv (.int .u64) (.t 48))),none,1966080⟩,
⟨(some 50),(.q (.bin .mul (.p .int) (.t 44) (.t 49))),none,4190208⟩,
⟨(some 51),(.x (.call (.c (.fn 98 [] [])) [(.t 28),(.t 39),(.t 50)])),none,8388607⟩,
⟨none,(.x (.st 3 (.t 4) (.t 51))),none,16777215⟩])
.ret) .skip))
(.seq (.drw [⟨(some 52),(.q (.faddr 1 (.t 2))),none,0⟩,
⟨(some 53),(.q (.ld false 1 (.t 52))),none,1⟩,
⟨(some 54),(.q (.faddr 2 (.t 3))),none,0⟩,
⟨(some 55),(.q (.ld false 1 (.t 54))),none,4⟩,
⟨(some 56),(.x (.call (.c (.fn 100 [] [])) [(.t 53),(.t 55)])),none,15⟩,
⟨(some 57),(.q (.faddr 1 (.t 3))),none,0⟩,
⟨(some 58),(.q (.ld false 1 (.t 57))),none,32⟩,
⟨(some 59),(.q (.faddr 2 (.t 2))),none,0⟩,
⟨(some 60),(.q (.ld false 1 (.t 59))),none,128⟩,
⟨(some 61),(.x (.call (.c (.fn 100 [] [])) [(.t 58),(.t 60)])),none,511⟩,
⟨(some 6),(.q (.mv (.t 56))),none,1023⟩,
⟨(some 7),(.q (.mv (.t 61))),none,2047⟩])
(.seq (.drw [⟨(some 62),(.q (.faddr 1 (.t 2))),none,0⟩,
⟨(some 63),(.q (.ld false 1 (.t 62))),none,1⟩,
⟨(some 64),(.q (.mv (.t 6))),none,0⟩,
⟨(some 65),(.x (.call (.c (.fn 102 [] [])) [(.t 63),(.t 64)])),none,7⟩,
⟨(some 66),(.q (.faddr 1 (.t 3))),none,0⟩,
⟨(some 67),(.q (.ld false 1 (.t 66))),none,16⟩,
⟨(some 68),(.q (.mv (.t 7))),none,0⟩,
⟨(some 69),(.x (.call (.c (.fn 102 [] [])) [(.t 67),(.t 68)])),none,127⟩,
⟨(some 70),(.x (.call (.c (.fn 143 [] [])) [(.t 65),(.t 69)])),none,255⟩,
⟨(some 8),(.q (.mv (.t 70))),none,511⟩])
(.seq (.drw [⟨(some 71),(.q (.mv (.t 5))),none,0⟩,
⟨(some 72),(.q (.mv (.t 8))),none,0⟩,
⟨(some 73),(.q (.faddr 2 (.t 2))),none,0⟩,
⟨(some 74),(.q (.ld false 1 (.t 73))),none,4⟩,
⟨(some 75),(.q (.mv (.t 7))),none,0⟩,
⟨(some 76),(.x (.call (.c (.fn 102 [] [])) [(.t 74),(.t 75)])),none,28⟩,
⟨(some 77),(.q (.faddr 2 (.t 3))),none,0⟩,
⟨(some 78),(.q (.ld false 1 (.t 77))),none,64⟩,
⟨(some 79),(.q (.mv (.t 6))),none,0⟩,
⟨(some 80),(.x (.call (.c (.fn 102 [] [])) [(.t 78),(.t 79)])),none,508⟩,
⟨(some 81),(.x (.call (.c (.fn 143 [] [])) [(.t 76),(.t 80)])),none,1020⟩,
⟨(some 82),(.q (.build [(.bool false),.nilsl,.nilsl] [(0,1,(.t 71)),(1,1,(.t 72)),(2,1,(.t 81))])),none,2047⟩,
⟨none,(.x (.st 3 (.t 4) (.t 82))),none,4095⟩])
.ret)))))))⟩
theorem row125 : Row Tryz.prog (125, a125) := ⟨Tryz.f125, Tryz.func125, by kernel_rfl⟩
noncomputable def a126 : AFn :=
⟨9,[(.cell 2 true 3),(.t 3)],(.seq (.reg [⟨(some 1),(.a (.box 46 (.t 0))),none,0⟩,
⟨(some 2),(.a (.alloc 46 [(.bool false),.nilsl,.nilsl])),none,0⟩,
⟨(some 3),(.q (.mv (.c (.int .i64 (.ofNat 0))))),none,0⟩])
(.seq (.seq (.reg [⟨(some 4),(.q (.ld true 3 (.t 1))),none,0⟩,
⟨(some 5),(.x (.call (.c (.fn 144 [] [])) [(.t 4)])),none,0⟩,
⟨(some 6),(.q (.un .not (.t 5))),none,0⟩])
(.cond (.t 6) (.seq (.reg [⟨(some 7),(.q (.build [(.bool false),.nilsl,.nilsl] [])),none,0⟩,
⟨none,(.x (.st 3 (.t 2) (.t 7))),none,0⟩,
⟨(some 3),(.q (.mv (.c (.int .i64 (.ofNat 5))))),none,0⟩])
.ret) .skip))
(.seq (.reg [⟨(some 8),(.q (.ld true 3 (.t 1))),none,0⟩,
⟨none,(.x (.st 3 (.t 2) (.t 8))),none,0⟩,
⟨(some 3),(.q (.mv (.c (.int .i64 (.ofNat 0))))),none,0⟩])
.ret)))⟩
theorem row126 : Row Tryz.prog (126, a126) := ⟨Tryz.f126, Tryz.func126, by kernel_rfl⟩
noncomputable def a127 : AFn :=
⟨21,[(.cell 6 true 3)],(.seq (.reg [⟨(some 3),(.a (.box 46 (.t 0))),none,0⟩,
⟨(some 6),(.a (.alloc 46 [(.bool false),.nilsl,.nilsl])),none,0⟩])
(.seq (.seq (.reg [⟨(some 9),(.q (.mv (.t 2))),none,0⟩,
⟨(some 10),(.q (.lenSl (.t 9))),none,0⟩,
⟨(some 11),(.q (.mv (.c (.int .i64 (.ofNat 0))))),none,0⟩])
(.block 0 (.loop (.seq (.reg [⟨(some 12),(.q (.bin .lss (.p .int) (.t 11) (.t 10))),none,0⟩])
(.seq (.cond (.t 12) .skip (.exit 0))
(.seq (.block 1 (.seq (.reg [⟨(some 13),(.q (.iaddr (.slice 6) (.t 9) (.t 11))),none,0⟩,
⟨(some 14),(.q (.ld true 6 (.t 13))),none,0⟩,
⟨(some 8),(.a (.alloc 158 [(.bool false),.nilsl,.nilsl,(.bool false),.nilsl,.nilsl])),none,0⟩,
⟨none,(.x (.st 6 (.t 8) (.t 14))),none,0⟩])
(.reg [⟨(some 15),(.q (.mv (.t 1))),none,0⟩,
⟨(some 16),(.q (.ld true 3 (.t 3))),none,0⟩,
⟨(some 17),(.q (.ld true 6 (.t 8))),none,0⟩,
⟨(some 18),(.x (.call (.t 15) [(.t 16),(.t 17)])),none,0⟩,
⟨none,(.x (.st 3 (.t 3) (.t 18))),none,0⟩])))
(.reg [⟨(some 19),(.q (.bin .add (.p .int) (.t 11) (.c (.int .i64 (.ofNat 1))))),none,0⟩,
⟨(some 11),(.q (.mv (.t 19))),none,0⟩])))))))
(.seq (.reg [⟨(some 20),(.q (.ld true 3 (.t 3))),none,0⟩,
⟨none,(.x (.st 3 (.t 6) (.t 20))),none,0⟩])
.ret)))⟩
theorem row127 : Row Tryz.prog (127, a127) := ⟨Tryz.f127, Tryz.func127, by kernel_rfl⟩
noncomputable def a128 : AFn :=
⟨11,[(.cell 5 true 3)],(.seq (.reg [⟨(some 3),(.a (.box 46 (.t 0))),none,0⟩,
⟨(some 4),(.a (.box 158 (.t 1))),none,0⟩,
⟨(some 5),(.a (.alloc 46 [(.bool false),.nilsl,.nilsl])),none,0⟩])
(.seq (.drw [⟨(some 6),(.q (.ld true 3 (.t 3))),none,0⟩,
⟨(some 7),(.q (.ld false 1 (.t 2))),none,0⟩,
⟨(some 8),(.q (.ld true 6 (.t 4))),none,0⟩,
⟨(some 9),(.x (.call (.t 7) [(.t 8)])),none,6⟩,
⟨(some 10),(.x (.call (.c (.fn 129 [] [])) [(.t 6),(.t 9)])),none,15⟩,
⟨none,(.x (.st 3 (.t 5) (.t 10))),none,31⟩])
.ret))⟩
theorem row128 : Row Tryz.prog (128, a128) := ⟨Tryz.f128, Tryz.func128, by kernel_rfl⟩
noncomputable def a129 : AFn :=
⟨86,[(.cell 4 true 3)],(.seq (.reg [⟨(some 2),(.a (.box 46 (.t 0))),none,0⟩,
⟨(some 3),(.a (.box 46 (.t 1))),none,0⟩,
⟨(some 4),(.a (.alloc 46 [(.bool false),.nilsl,.nilsl])),none,0⟩])
(.seq (.seq (.reg [⟨(some 11),(.q (.faddr 1 (.t 2))),none,0⟩,
⟨(some 12),(.q (.ld false 1 (.t 11))),none,0⟩,
⟨(some 13),(.q (.lenSl (.t 12))),none,0⟩,
⟨(some 14),(.q (.bin .eql (.p .int) (.t 13) (.c (.int .i64 (.ofNat 0))))),none,0⟩])
(.cond (.t 14) (.seq (.reg [⟨(some 15),(.q (.ld true 3 (.t 3))),none,0⟩,
⟨(some 16),(.x (.call (.c (.fn 145 [] [])) [(.t 15)])),none,0⟩,
⟨none,(.x (.st 3 (.t 4) (.t 16))),none,0⟩])
.ret) .skip))
(.seq (.seq (.reg [⟨(some 17),(.q (.faddr 1 (.t 3))),none,0⟩,
⟨(some 18),(.q (.ld false 1 (.t 17))),none,0⟩,
⟨(some 19),(.q (.lenSl (.t 18))),none,0⟩,
⟨(some 20),(.q (.bin .eql (.p .int) (.t 19) (.c (.int .i64 (.ofNat 0))))),none,0⟩])
(.cond (.t 20) (.seq (.reg [⟨(some 21),(.q (.ld true 3 (.t 2))),none,0⟩,
⟨(some 22),(.x (.call (.c (.fn 145 [] [])) [(.t 21)])),none,0⟩,
⟨none,(.x (.st 3 (.t 4) (.t 22))),none,0⟩])
.ret) .skip))
(.seq (.seq (.reg [⟨(some 23),(.q (.ld true 3 (.t 2))),none,0⟩,
⟨(some 24),(.q (.ld true 3 (.t 3))),none,0⟩,
⟨(some 25),(.x (.call (.c (.fn 142 [] [])) [(.t 23),(.t 24)])),none,0⟩])
(.cond (.t 25) (.seq (.reg [⟨(some 26),(.q (.ld true 3 (.t 2))),none,0⟩,
⟨(some 27),(.q (.ld true 3 (.t 3))),none,0⟩,
⟨(some 28),(.x (.call (.c (.fn 146 [] [])) [(.t 26),(.t 27)])),none,0⟩,
⟨none,(.x (.st 3 (.t 4) (.t 28))),none,0⟩])
.ret) .skip))
(.seq (.reg [⟨(some 29),(.q (.faddr 2 (.t 2))),none,0⟩,
⟨(some 30),(.q (.ld false 1 (.t 29))),none,0⟩,
⟨(some 31),(.q (.faddr 2 (.t 3))),none,0⟩,
⟨(some 32),(.q (.ld false 1 (.t 31))),none,0⟩,
⟨(some 33),(.x (.call (.c (.fn 100 [] [])) [(.t 30),(.t 32)])),none,0⟩,
⟨(some 5),(.q (.mv (.t 33))),none,0⟩])
(.seq (.drw [⟨(some 34),(.q (.faddr 2 (.t 2))),none,0⟩,
⟨(some 35),(.q (.ld false 1 (.t 34))),none,1⟩,
⟨(some 36),(.q (.mv (.t 5))),none,0⟩,
⟨(some 37),(.x (.call (.c (.fn 102 [] [])) [(.t 35),(.t 36)])),none,7⟩,
⟨(some 38),(.q (.faddr 2 (.t 3))),none,0⟩,
⟨(some 39),(.q (.ld false 1 (.t 38))),none,16⟩,
⟨(some 40),(.q (.mv (.t 5))),none,0⟩,
⟨(some 41),(.x (.call (.c (.fn 102 [] [])) [(.t 39),(.t 40)])),none,127⟩,
⟨(some 6),(.q (.mv (.t 37))),none,255⟩,
⟨(some 7),(.q (.mv (.t 41))),none,511⟩])
(.seq (.drw [⟨(some 43),(.q (.faddr 0 (.t 2))),none,0⟩,
⟨(some 44),(.q (.ld false 1 (.t 43))),none,1⟩,
⟨(some 45),(.q (.faddr 1 (.t 2))),none,0⟩,
⟨(some 46),(.q (.ld false 1 (.t 45))),none,4⟩,
⟨(some 47),(.q (.mv (.t 7))),none,0⟩,
⟨(some 48),(.x (.call (.c (.fn 143 [] [])) [(.t 46),(.t 47)])),none,28⟩,
⟨(some 49),(.q (.faddr 0 (.t 3))),none,0⟩,
⟨(some 50),(.q (.ld false 1 (.t 49))),none,64⟩,
⟨(some 51),(.q (.faddr 1 (.t 3))),none,0⟩,
⟨(some 52),(.q (.ld false 1 (.t 51))),none,256⟩,
⟨(some 53),(.q (.mv (.t 6))),none,0⟩,
⟨(some 54),(.x (.call (.c (.fn 143 [] [])) [(.t 52),(.t 53)])),none,1852⟩,
⟨(some 55),(.x (.call (.c (.fn 147 [] [])) [(.t 44),(.t 48),(.t 50),(.t 54)])),none,4095⟩,
⟨(some 42),(.q (.mv (.t 55))),none,8191⟩,
⟨(some 56),(.q (.extract (.t 42) 0)),none,16383⟩,
⟨(some 57),(.q (.extract (.t 42) 1)),none,16383⟩,
⟨(some 8),(.q (.mv (.t 56))),none,32767⟩,
⟨(some 9),(.q (.mv (.t 57))),none,131071⟩])
(.seq (.seq (.reg [⟨(some 58),(.q (.mv (.t 9))),none,0⟩,
⟨(some 59),(.q (.lenSl (.t 58))),none,0⟩,
⟨(some 60),(.q (.bin .eql (.p .int) (.t 59) (.c (.int .i64 (.ofNat 0))))),none,0⟩])
(.cond (.t 60) (.seq (.reg [⟨(some 61),(.x (.call (.c (.fn 97 [] [])) [])),none,0⟩,
⟨none,(.x (.st 3 (.t 4) (.t 61))),none,0⟩])
.ret) .skip))
(.seq (.seq (.reg [⟨(some 62),(.q (.mv (.t 5))),none,0⟩,
⟨(some 63),(.x (.call (.c (.fn 117 [] [])) [(.t 62)])),none,0⟩])
(.cond (.t 63) (.seq (.reg [⟨(some 64),(.q (.mv (.t 8))),none,0⟩,
⟨(some 65),(.q (.mv (.t 9))),none,0⟩,
⟨(some 66),(.q (.faddr 2 (.t 2))),none,0⟩,
⟨(some 67),(.q (.ld false 1 (.t 66))),none,0⟩,
⟨(some 68),(.q (.faddr 2 (.t 3))),none,0⟩,
⟨(some 69),(.q (.ld false 1 (.t 68))),none,0⟩,
⟨(some 70),(.x (.call (.c (.fn 143 [] [])) [(.t 67),(.t 69)])),none,0⟩,
⟨(some 71),(.q (.build [(.bool false),.nilsl,.nilsl] [(0,1,(.t 64)),(1,1,(.t 65)),(2,1,(.t 70))])),none,0⟩,
⟨none,(.x (.st 3 (.t 4) (.t 71))),none,0⟩])
.ret) .skip))
(.seq (.reg [⟨(some 72),(.q (.mv (.t 9))),none,0⟩,
⟨(some 73),(.q (.mv (.t 5))),none,0⟩,
⟨(some 74),(.x (.call (.c (.fn 100 [] [])) [(.t 72),(.t 73)])),none,0⟩,
⟨(some 10),(.q (.mv (.t 74))),none,0⟩])
(.seq (.drw [⟨(some 75),(.q (.mv (.t 8))),none,0⟩,
⟨(some 76),(.q (.mv (.t 9))),none,0⟩,
⟨(some 77),(.q (.mv (.t 10))),none,0⟩,
⟨(some 78),(.x (.call (.c (.fn 102 [] [])) [(.t 76),(.t 77)])),none,6⟩,
⟨(some 79),(.q (.mv (.t 6))),none,0⟩,
⟨(some 80),(.q (.faddr 2 (.t 3))),none,0⟩,
⟨(some 81),(.q (.ld false 1 (.t 80))),none,32⟩,
⟨(some 82),(.q (.mv (.t 10))),none,0⟩,
⟨(some 83),(.x (.call (.c (.fn 102 [] [])) [(.t 81),(.t 82)])),none,238⟩,
⟨(some 84),(.x (.call (.c (.fn 143 [] [])) [(.t 79),(.t 83)])),none,510⟩,
⟨(some 85),(.q (.build [(.bool false),.nilsl,.nilsl] [(0,1,(.t 75)),(1,1,(.t 78)),(2,1,(.t 84))])),none,1023⟩,
⟨none,(.x (.st 3 (.t 4) (.t 85))),none,2047⟩])
.ret)))))))))))⟩
theorem row129 : Row Tryz.prog (129, a129) := ⟨Tryz.f129, Tryz.func129, by kernel_rfl⟩
noncomputable def a130 : AFn :=
⟨10,[(.t 6)],(.seq (.reg [⟨(some 3),(.a (.box 3 (.t 0))),none,0⟩,
⟨(some 4),(.a (.box 3 (.t 1))),none,0⟩,
⟨(some 6),(.q (.mv (.c (.int .i64 (.ofNat 0))))),none,0⟩])
(.seq (.seq (.reg [⟨(some 7),(.q (.mv (.t 2))),none,0⟩,
⟨(some 8),(.q (.mkFunc 149 [] [(.t 3),(.t 4)])),none,0⟩,
⟨(some 9),(.x (.call (.c (.fn 148 [] [])) [(.t 7),(.t 8)])),none,0⟩])
(.cond (.t 9) (.seq (.reg [⟨(some 6),(.q (.mv (.c (.int .i64 (.ofNat 2))))),none,0⟩])
.ret) .skip))
(.seq (.reg [⟨(some 6),(.q (.mv (.c (.int .i64 (.ofNat 0))))),none,0⟩])
.ret)))⟩
theorem row130 : Row Tryz.prog (130, a130) := ⟨Tryz.f130, Tryz.func130, by kernel_rfl⟩
noncomputable def a131 : AFn :=
⟨19,[(.t 4)],(.seq (.reg [⟨(some 4),(.q (.mv (.c (.int .i64 (.ofNat 0))))),none,0⟩])
(.seq (.seq (.reg [⟨(some 6),(.q (.mv (.t 0))),none,0⟩,
⟨(some 7),(.q (.lenSl (.t 6))),none,0⟩,
⟨(some 8),(.q (.mv (.c (.int .i64 (.ofNat 0))))),none,0⟩])
(.block 0 (.loop (.seq (.reg [⟨(some 9),(.q (.bin .lss (.p .int) (.t 8) (.t 7))),none,0⟩])
(.seq (.cond (.t 9) .skip (.exit 0))
(.seq (.block 1 (.seq (.reg [⟨(some 10),(.q (.mv (.t 8))),none,0⟩,
⟨(some 5),(.q (.mv (.t 10))),none,0⟩])
(.seq (.reg [⟨(some 11),(.q (.mv (.t 1))),none,0⟩,
⟨(some 12),(.q (.mv (.t 0))),none,0⟩,
⟨(some 13),(.q (.mv (.t 5))),none,0⟩,
⟨(some 14),(.q (.iaddr (.slice 1) (.t 12) (.t 13))),none,0⟩,
⟨(some 15),(.q (.ld false 1 (.t 14))),none,0⟩,
⟨(some 16),(.q (.bin .eql (.p .int) (.t 11) (.t 15))),none,0⟩])
(.cond (.t 16) (.seq (.reg [⟨(some 17),(.q (.mv (.t 5))),none,0⟩,
⟨(some 4),(.q (.mv (.t 17))),none,0⟩])
.ret) .skip))))
(.reg [⟨(some 18),(.q (.bin .add (.p .int) (.t 8) (.c (.int .i64 (.ofNat 1))))),none,0⟩,
⟨(some 8),(.q (.mv (.t 18))),none,0⟩])))))))
(.seq (.reg [⟨(some 4),(.q (.mv (.c (.int .i64 (.negSucc 0))))),none,0⟩])
.ret)))⟩
theorem row131 : Row Tryz.prog (131, a131) := ⟨Tryz.f131, Tryz.func131, by kernel_rfl⟩
noncomputable def a132 : AFn :=
⟨17,[(.t 4)],(.seq (.reg [⟨(some 4),(.q (.mv (.c (.bool false)))),none,0⟩])
(.seq (.reg [⟨(some 5),(.q (.mv (.t 0))),none,0⟩,
⟨(some 6),(.x (.call (.c (.fn 150 [] [])) [(.t 5)])),none,0⟩,
⟨(some 7),(.q (.mv (.t 6))),none,0⟩,
⟨(some 8),(.q (.mv (.t 1))),(some (7,true)),0⟩,
⟨(some 9),(.x (.call (.c (.fn 150 [] [])) [(.t 8)])),(some (7,true)),0⟩,
⟨(some 10),(.q (.un .not (.t 9))),(some (7,true)),0⟩,
⟨(some 11),(.q (.pick (.t 7) (.t 10) (.c (.bool false)))),none,0⟩,
⟨(some 12),(.q (.mv (.t 11))),none,0⟩,
⟨(some 13),(.q (.mv (.t 0))),(some (12,false)),0⟩,
⟨(some 14),(.q (.mv (.t 1))),(some (12,false)),0⟩,
⟨(some 15),(.q (.bin .lss (.p .int) (.t 13) (.t 14))),(some (12,false)),0⟩,
⟨(some 16),(.q (.pick (.t 12) (.c (.bool true)) (.t 15))),none,0⟩,
⟨(some 4),(.q (.mv (.t 16))),none,0⟩])
.ret))⟩
theorem row132 : Row Tryz.prog (132, a132) := ⟨Tryz.f132, Tryz.func132, by kernel_rfl⟩
noncomputable def a133 : AFn :=
⟨14,[(.t 2)],(.seq (.reg [⟨(some 2),(.q (.mv (.c (.int .i64 (.ofNat 0))))),none,0⟩])
(.seq (.seq (.reg [⟨(some 3),(.q (.mv (.t 0))),none,0⟩,
⟨(some 4),(.q (.bin .eql (.p .int) (.t 3) (.c (.int .u64 (.ofNat 0))))),none,0⟩])
(.cond (.t 4) (.seq (.reg [⟨(some 2),(.q (.mv (.c (.int .i64 (.ofNat 64))))),none,0⟩])
.ret) .skip))
(.seq (.reg [⟨(some 5),(.q (.mv (.t 0))),none,0⟩,
⟨(some 6),(.q (.mv (.t 0))),none,0⟩,
⟨(some 7),(.q (.un .neg (.t 6))),none,0⟩,
⟨(some 8),(.q (.bin .and (.p .int) (.t 5) (.t 7))),none,0⟩,
⟨(some 9),(.q (.bin .mul (.p .int) (.t 8) (.c (.int .u64 (.ofNat 285870213051353865))))),none,0⟩,
⟨(some 10),(.q (.bin .shr (.p .int) (.t 9) (.c (.int .u64 (.ofNat 58))))),none,0⟩,
⟨(some 11),(.q (.iaddr (.arr 64 1) (.c (.ptr 0 0)) (.t 10))),none,0⟩,
⟨(some 12),(.q (.ld false 1 (.t 11))),none,0⟩,
⟨(some 13),(.q (.conv (.int .i64) (.t 12))),none,0⟩,
⟨(some 2),(.q (.mv (.t 13))),none,0⟩])
.ret)))⟩
theorem row133 : Row Tryz.prog (133, a133) := ⟨Tryz.f133, Tryz.func133, by kernel_rfl⟩
noncomputable def a134 : AFn :=
⟨28,[(.t 4)],(.seq (.reg [⟨(some 3),(.a (.box 44 (.t 0))),none,0⟩,
⟨(some 4),(.q (.mv (.c (.int .i64 (.ofNat 0))))),none,0⟩])
(.seq (.reg [⟨(some 6),(.q (.mkFunc 135 [] [(.t 3)])),none,0⟩,
⟨(some 5),(.q (.mv (.t 6))),none,0⟩])
(.seq (.drw [⟨(some 7),(.q (.mv (.t 5))),none,0⟩,
⟨(some 8),(.q (.ld false 1 (.t 1))),none,0⟩,
⟨(some 9),(.q (.bin .sub (.p .int) (.t 8) (.c (.int .i64 (.ofNat 1))))),none,2⟩,
⟨(some 10),(.x (.call (.t 7) [(.t 9)])),none,7⟩,
⟨(some 11),(.q (.bin .mul (.p .int) (.t 10) (.c (.int .u64 (.ofNat 1000000000))))),none,15⟩,
⟨(some 12),(.q (.mv (.t 5))),none,0⟩,
⟨(some 13),(.q (.ld false 1 (.t 1))),none,0⟩,
⟨(some 14),(.q (.bin .sub (.p .int) (.t 13) (.c (.int .i64 (.ofNat 2))))),none,64⟩,
⟨(some 15),(.x (.call (.t 12) [(.t 14)])),none,239⟩,
⟨(some 16),(.q (.bin .add (.p .int) (.t 11) (.t 15))),none,511⟩,
⟨(some 17),(.q (.ld false 1 (.t 2))),none,0⟩,
⟨(some 18),(.q (.bin .mul (.p .int) (.t 16) (.t 17))),none,2047⟩,
⟨(some 19),(.q (.mv (.t 5))),none,0⟩,
⟨(some 20),(.q (.ld false 1 (.t 1))),none,0⟩,
⟨(some 21),(.q (.bin .sub (.p .int) (.t 20) (.c (.int .i64 (.ofNat 3))))),none,8192⟩,
⟨(some 22),(.x (.call (.t 19) [(.t 21)])),none,29167⟩,
⟨(some 23),(.q (.ld false 1 (.t 2))),none,0⟩,
⟨(some 24),(.q (.bin .mul (.p .int) (.t 22) (.t 23))),none,127471⟩,
⟨(some 25),(.q (.bin .quo (.p .int) (.t 24) (.c (.int .u64 (.ofNat 1000000000))))),none,258543⟩,
⟨(some 26),(.q (.bin .add (.p .int) (.t 18) (.t 25))),none,524287⟩,
⟨(some 27),(.q (.conv (.int .i64) (.t 26))),none,1048575⟩,
⟨(some 4),(.q (.mv (.t 27))),none,2097151⟩])
.ret)))⟩
theorem row134 : Row Tryz.prog (134, a134) := ⟨Tryz.f134, Tryz.func134, by kernel_rfl⟩
noncomputable def a135 : AFn :=
⟨13,[(.t 3)],(.seq (.reg [⟨(some 3),(.q (.mv (.c (.int .u64 (.ofNat 0))))),none,0⟩])
(.seq (.seq (.reg [⟨(some 4),(.q (.mv (.t 0))),none,0⟩,
⟨(some 5),(.q (.ld false 1 (.t 1))),none,0⟩,
⟨(some 6),(.q (.lenSl (.t 5))),none,0⟩,
⟨(some 7),(.q (.bin .lss (.p .int) (.t 4) (.t 6))),none,0⟩])
(.cond (.t 7) (.seq (.reg [⟨(some 8),(.q (.ld false 1 (.t 1))),none,0⟩,
⟨(some 9),(.q (.mv (.t 0))),none,0⟩,
⟨(some 10),(.q (.iaddr (.slice 1) (.t 8) (.t 9))),none,0⟩,
⟨(some 11),(.q (.ld false 1 (.t 10))),none,0⟩,
⟨(some 12),(.q (.conv (.int .u64) (.t 11))),none,0⟩,
⟨(some 3),(.q (.mv (.t 12))),none,0⟩])
.ret) .skip))
(.seq (.reg [⟨(some 3),(.q (.mv (.c (.int .u64 (.ofNat 0))))),none,0⟩])
.ret)))⟩
theorem row135 : Row Tryz.prog (135, a135) := ⟨Tryz.f135, Tryz.func135, by kernel_rfl⟩
noncomputable def a136 : AFn :=
⟨44,[(.t 4),(.t 5)],(.seq (.reg [⟨(some 4),(.q (.mv (.c .nilsl))),none,0⟩,
⟨(some 5),(.q (.mv (.c (.int .u32 (.ofNat 0))))),none,0⟩])
(.seq (.reg [⟨(some 10),(.q (.mv (.t 0))),none,0⟩,
⟨(some 11),(.q (.lenSl (.t 10))),none,0⟩,
⟨(some 12),(.a (.mkSlice 97 1 4 [(.int .u32 (.ofNat 0))] (.t 11) (.t 11))),none,0⟩,
⟨(some 6),(.q (.mv (.t 12))),none,0⟩])
(.seq (.reg [⟨(some 7),(.q (.mv (.c (.int .u64 (.ofNat 0))))),none,0⟩])
(.seq (.seq (.reg [⟨(some 13),(.q (.mv (.t 0))),none,0⟩,
⟨(some 14),(.q (.lenSl (.t 13))),none,0⟩,
⟨(some 15),(.q (.bin .sub (.p .int) (.t 14) (.c (.int .i64 (.ofNat 1))))),none,0⟩,
⟨(some 8),(.q (.mv (.t 15))),none,0⟩])
(.block 0 (.loop (.seq (.seq (.reg [⟨(some 16),(.q (.mv (.t 8))),none,0⟩,
⟨(some 17),(.q (.bin .geq (.p .int) (.t 16) (.c (.int .i64 (.ofNat 0))))),none,0⟩])
(.cond (.t 17) .skip (.exit 0)))
(.seq (.block 1 (.seq (.reg [⟨(some 20),(.q (.mv (.t 7))),none,0⟩,
⟨(some 21),(.q (.bin .mul (.p .int) (.t 20) (.c (.int .u64 (.ofNat 1000000000))))),none,0⟩,
⟨(some 22),(.q (.mv (.t 0))),none,0⟩,
⟨(some 23),(.q (.mv (.t 8))),none,0⟩,
⟨(some 24),(.q (.iaddr (.slice 1) (.t 22) (.t 23))),none,0⟩,
⟨(some 25),(.q (.ld false 1 (.t 24))),none,0⟩,
⟨(some 26),(.q (.conv (.int .u64) (.t 25))),none,0⟩,
⟨(some 27),(.q (.bin .add (.p .int) (.t 21) (.t 26))),none,0⟩,
⟨(some 9),(.q (.mv (.t 27))),none,0⟩])
(.seq (.reg [⟨(some 28),(.q (.mv (.t 6))),none,0⟩,
⟨(some 29),(.q (.mv (.t 8))),none,0⟩,
⟨(some 30),(.q (.mv (.t 9))),none,0⟩,
⟨(some 31),(.q (.mv (.t 1))),none,0⟩,
⟨(some 32),(.q (.conv (.int .u64) (.t 31))),none,0⟩,
⟨(some 33),(.q (.bin .quo (.p .int) (.t 30) (.t 32))),none,0⟩,
⟨(some 34),(.q (.conv (.int .u32) (.t 33))),none,0⟩,
⟨(some 35),(.q (.iaddr (.slice 1) (.t 28) (.t 29))),none,0⟩,
⟨none,(.x (.st 1 (.t 35) (.t 34))),none,0⟩])
(.reg [⟨(some 36),(.q (.mv (.t 9))),none,0⟩,
⟨(some 37),(.q (.mv (.t 1))),none,0⟩,
⟨(some 38),(.q (.conv (.int .u64) (.t 37))),none,0⟩,
⟨(some 39),(.q (.bin .rem (.p .int) (.t 36) (.t 38))),none,0⟩,
⟨(some 7),(.q (.mv (.t 39))),none,0⟩]))))
(.reg [⟨(some 18),(.q (.mv (.t 8))),none,0⟩,
⟨(some 19),(.q (.bin .sub (.p .int) (.t 18) (.c (.int .i64 (.ofNat 1))))),none,0⟩,
⟨(some 8),(.q (.mv (.t 19))),none,0⟩]))))))
(.seq (.reg [⟨(some 40),(.q (.mv (.t 6))),none,0⟩,
⟨(some 41),(.x (.call (.c (.fn 139 [] [])) [(.t 40)])),none,0⟩,
⟨(some 42),(.q (.mv (.t 7))),none,0⟩,
⟨(some 43),(.q (.conv (.int .u32) (.t 42))),none,0⟩,
⟨(some 4),(.q (.mv (.t 41))),none,0⟩,
⟨(some 5),(.q (.mv (.t 43))),none,0⟩])
.ret)))))⟩
theorem row136 : Row Tryz.prog (136, a136) := ⟨Tryz.f136, Tryz.func136, by kernel_rfl⟩
end Go.Proofs.YtiiplmagnlcpbaaGreatDoor.dealKnown
