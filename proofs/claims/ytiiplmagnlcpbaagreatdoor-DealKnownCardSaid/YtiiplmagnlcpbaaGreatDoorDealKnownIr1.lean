/- The functions that DealKnown reaches, as data of the evaluator (part 1), written by program; each is shown to be the compiler's result on the loaded function. -/
import Derived.Test.YtiiplmagnlcpbaaGreatDoorProg
import Derived.Test.YtiiplmagnlcpbaaGreatDoorEv7
import Derived.KernelRfl
namespace Go.Proofs.YtiiplmagnlcpbaaGreatDoor.dealKnown
open Go.Ev
set_option maxRecDepth 100000
noncomputable def a52 : AFn :=
⟨20,[(.t 4)],(.seq (.reg [⟨(some 2),(.a (.box 102 (.t 0))),none,0⟩,
⟨(some 3),(.a (.box 73 (.t 1))),none,0⟩,
⟨(some 4),(.q (.mv (.c (.int .i64 (.ofNat 0))))),none,0⟩])
(.seq (.reg [⟨(some 5),(.q (.mv (.c (.int .i64 (.ofNat 0))))),none,0⟩])
(.seq (.seq (.reg [⟨(some 8),(.q (.faddr 4 (.t 3))),none,0⟩,
⟨(some 9),(.q (.ld false 1 (.t 8))),none,0⟩,
⟨(some 10),(.q (.lenSl (.t 9))),none,0⟩,
⟨(some 11),(.q (.mv (.c (.int .i64 (.ofNat 0))))),none,0⟩])
(.block 0 (.loop (.seq (.reg [⟨(some 12),(.q (.bin .lss (.p .int) (.t 11) (.t 10))),none,0⟩])
(.seq (.cond (.t 12) .skip (.exit 0))
(.seq (.block 1 (.seq (.reg [⟨(some 13),(.q (.iaddr (.slice 1) (.t 9) (.t 11))),none,0⟩,
⟨(some 14),(.q (.ld false 1 (.t 13))),none,0⟩,
⟨(some 7),(.q (.mv (.t 14))),none,0⟩])
(.reg [⟨(some 15),(.q (.mv (.t 5))),none,0⟩,
⟨(some 16),(.q (.mv (.t 7))),none,0⟩,
⟨(some 17),(.q (.bin .add (.p .int) (.t 15) (.t 16))),none,0⟩,
⟨(some 5),(.q (.mv (.t 17))),none,0⟩])))
(.reg [⟨(some 18),(.q (.bin .add (.p .int) (.t 11) (.c (.int .i64 (.ofNat 1))))),none,0⟩,
⟨(some 11),(.q (.mv (.t 18))),none,0⟩])))))))
(.seq (.reg [⟨(some 19),(.q (.mv (.t 5))),none,0⟩,
⟨(some 4),(.q (.mv (.t 19))),none,0⟩])
.ret))))⟩
theorem row52 : Row Tryz.prog (52, a52) := ⟨Tryz.f52, Tryz.func52, by kernel_rfl⟩
noncomputable def a56 : AFn :=
⟨25,[(.t 4)],(.seq (.reg [⟨(some 2),(.a (.box 73 (.t 0))),none,0⟩,
⟨(some 4),(.q (.mv (.c (.int .i64 (.ofNat 0))))),none,0⟩])
(.seq (.reg [⟨(some 5),(.q (.mv (.c (.int .i64 (.ofNat 0))))),none,0⟩])
(.seq (.block 0 (.loop (.seq (.seq (.reg [⟨(some 6),(.q (.mv (.t 5))),none,0⟩,
⟨(some 7),(.q (.bin .add (.p .int) (.t 6) (.c (.int .i64 (.ofNat 1))))),none,0⟩,
⟨(some 8),(.q (.faddr 3 (.t 2))),none,0⟩,
⟨(some 9),(.q (.ld false 1 (.t 8))),none,0⟩,
⟨(some 10),(.q (.lenSl (.t 9))),none,0⟩,
⟨(some 11),(.q (.bin .lss (.p .int) (.t 7) (.t 10))),none,0⟩,
⟨(some 12),(.q (.mv (.t 11))),none,0⟩,
⟨(some 13),(.q (.faddr 3 (.t 2))),(some (12,true)),0⟩,
⟨(some 14),(.q (.ld false 1 (.t 13))),(some (12,true)),0⟩,
⟨(some 15),(.q (.mv (.t 5))),(some (12,true)),0⟩,
⟨(some 16),(.q (.bin .add (.p .int) (.t 15) (.c (.int .i64 (.ofNat 1))))),(some (12,true)),0⟩,
⟨(some 17),(.q (.iaddr (.slice 1) (.t 14) (.t 16))),(some (12,true)),0⟩,
⟨(some 18),(.q (.ld false 1 (.t 17))),(some (12,true)),0⟩,
⟨(some 19),(.q (.mv (.t 1))),(some (12,true)),0⟩,
⟨(some 20),(.q (.bin .leq (.p .int) (.t 18) (.t 19))),(some (12,true)),0⟩,
⟨(some 21),(.q (.pick (.t 12) (.t 20) (.c (.bool false)))),none,0⟩])
(.cond (.t 21) .skip (.exit 0)))
(.block 1 (.reg [⟨(some 22),(.q (.mv (.t 5))),none,0⟩,
⟨(some 23),(.q (.bin .add (.p .int) (.t 22) (.c (.int .i64 (.ofNat 1))))),none,0⟩,
⟨(some 5),(.q (.mv (.t 23))),none,0⟩])))))
(.seq (.reg [⟨(some 24),(.q (.mv (.t 5))),none,0⟩,
⟨(some 4),(.q (.mv (.t 24))),none,0⟩])
.ret))))⟩
theorem row56 : Row Tryz.prog (56, a56) := ⟨Tryz.f56, Tryz.func56, by kernel_rfl⟩
noncomputable def a57 : AFn :=
⟨21,[(.cell 4 true 3),(.t 5)],(.seq (.reg [⟨(some 4),(.a (.alloc 46 [(.bool false),.nilsl,.nilsl])),none,0⟩,
⟨(some 5),(.q (.mv (.c (.int .i64 (.ofNat 0))))),none,0⟩])
(.seq (.seq (.reg [⟨(some 6),(.q (.mv (.t 1))),none,0⟩,
⟨(some 7),(.q (.bin .eql (.p .int) (.t 6) (.c (.int .i64 (.ofNat 0))))),none,0⟩])
(.cond (.t 7) (.seq (.reg [⟨(some 8),(.q (.build [(.bool false),.nilsl,.nilsl] [])),none,0⟩,
⟨none,(.x (.st 3 (.t 4) (.t 8))),none,0⟩,
⟨(some 5),(.q (.mv (.c (.int .i64 (.ofNat 6))))),none,0⟩])
.ret) .skip))
(.seq (.reg [⟨(some 9),(.q (.mv (.t 0))),none,0⟩,
⟨(some 10),(.q (.bin .lss (.p .int) (.t 9) (.c (.int .i64 (.ofNat 0))))),none,0⟩,
⟨(some 11),(.q (.mv (.t 1))),none,0⟩,
⟨(some 12),(.q (.bin .lss (.p .int) (.t 11) (.c (.int .i64 (.ofNat 0))))),none,0⟩,
⟨(some 13),(.q (.bin .neq (.p .bool) (.t 10) (.t 12))),none,0⟩,
⟨(some 14),(.q (.mv (.t 0))),none,0⟩,
⟨(some 15),(.x (.call (.c (.fn 83 [] [])) [(.t 14)])),none,0⟩,
⟨(some 16),(.x (.call (.c (.fn 82 [] [])) [(.t 15)])),none,0⟩,
⟨(some 17),(.q (.mv (.t 1))),none,0⟩,
⟨(some 18),(.x (.call (.c (.fn 83 [] [])) [(.t 17)])),none,0⟩,
⟨(some 19),(.x (.call (.c (.fn 82 [] [])) [(.t 18)])),none,0⟩,
⟨(some 20),(.x (.call (.c (.fn 81 [] [])) [(.t 13),(.t 16),(.t 19)])),none,0⟩,
⟨none,(.x (.st 3 (.t 4) (.t 20))),none,0⟩,
⟨(some 5),(.q (.mv (.c (.int .i64 (.ofNat 0))))),none,0⟩])
.ret)))⟩
theorem row57 : Row Tryz.prog (57, a57) := ⟨Tryz.f57, Tryz.func57, by kernel_rfl⟩
noncomputable def a58 : AFn :=
⟨14,[],(.seq (.reg [⟨(some 4),(.q (.ld false 1 (.t 0))),none,0⟩,
⟨(some 5),(.q (.bin .eql (.p .int) (.t 4) (.c (.int .i64 (.ofNat 0))))),none,0⟩])
(.cond (.t 5) (.drw [⟨(some 7),(.q (.ld true 3 (.t 1))),none,0⟩,
⟨(some 8),(.q (.ld false 1 (.t 2))),none,0⟩,
⟨(some 9),(.q (.iaddr (.slice 1) (.t 8) (.c (.int .i64 (.ofNat 0))))),none,2⟩,
⟨(some 10),(.q (.ld false 1 (.t 9))),none,6⟩,
⟨(some 11),(.x (.call (.c (.fn 59 [] [])) [(.t 7),(.t 10)])),none,15⟩,
⟨(some 6),(.q (.mv (.t 11))),none,31⟩,
⟨(some 12),(.q (.extract (.t 6) 0)),none,63⟩,
⟨(some 13),(.q (.extract (.t 6) 1)),none,63⟩,
⟨none,(.x (.st 3 (.t 3) (.t 12))),none,127⟩,
⟨none,(.x (.st 1 (.t 0) (.t 13))),none,511⟩]) .skip))⟩
theorem row58 : Row Tryz.prog (58, a58) := ⟨Tryz.f58, Tryz.func58, by kernel_rfl⟩
noncomputable def a59 : AFn :=
⟨22,[(.cell 4 true 3),(.t 5)],(.seq (.reg [⟨(some 2),(.a (.box 46 (.t 0))),none,0⟩,
⟨(some 4),(.a (.alloc 46 [(.bool false),.nilsl,.nilsl])),none,0⟩,
⟨(some 5),(.q (.mv (.c (.int .i64 (.ofNat 0))))),none,0⟩])
(.seq (.reg [⟨(some 9),(.q (.mv (.t 1))),none,0⟩,
⟨(some 10),(.x (.call (.c (.fn 57 [] [])) [(.t 9),(.c (.int .i64 (.ofNat 1)))])),none,0⟩,
⟨(some 8),(.q (.mv (.t 10))),none,0⟩,
⟨(some 11),(.q (.extract (.t 8) 0)),none,0⟩,
⟨(some 12),(.q (.extract (.t 8) 1)),none,0⟩,
⟨(some 6),(.a (.alloc 46 [(.bool false),.nilsl,.nilsl])),none,0⟩,
⟨none,(.x (.st 3 (.t 6) (.t 11))),none,0⟩,
⟨(some 7),(.q (.mv (.t 12))),none,0⟩])
(.seq (.seq (.reg [⟨(some 13),(.q (.mv (.t 7))),none,0⟩,
⟨(some 14),(.q (.bin .neq (.p .int) (.t 13) (.c (.int .i64 (.ofNat 0))))),none,0⟩])
(.cond (.t 14) (.seq (.reg [⟨(some 15),(.q (.build [(.bool false),.nilsl,.nilsl] [])),none,0⟩,
⟨(some 16),(.q (.mv (.t 7))),none,0⟩,
⟨none,(.x (.st 3 (.t 4) (.t 15))),none,0⟩,
⟨(some 5),(.q (.mv (.t 16))),none,0⟩])
.ret) .skip))
(.seq (.reg [⟨(some 17),(.q (.ld true 3 (.t 2))),none,0⟩,
⟨(some 18),(.q (.ld true 3 (.t 6))),none,0⟩,
⟨(some 19),(.x (.call (.c (.fn 84 [] [])) [(.t 17),(.t 18)])),none,0⟩,
⟨(some 20),(.q (.extract (.t 19) 0)),none,0⟩,
⟨(some 21),(.q (.extract (.t 19) 1)),none,0⟩,
⟨none,(.x (.st 3 (.t 4) (.t 20))),none,0⟩,
⟨(some 5),(.q (.mv (.t 21))),none,0⟩])
.ret))))⟩
theorem row59 : Row Tryz.prog (59, a59) := ⟨Tryz.f59, Tryz.func59, by kernel_rfl⟩
noncomputable def a60 : AFn :=
⟨44,[(.cell 6 true 3),(.t 7)],(.seq (.reg [⟨(some 3),(.a (.box 46 (.t 0))),none,0⟩,
⟨(some 6),(.a (.alloc 46 [(.bool false),.nilsl,.nilsl])),none,0⟩,
⟨(some 7),(.q (.mv (.c (.int .i64 (.ofNat 0))))),none,0⟩])
(.seq (.reg [⟨(some 12),(.q (.mv (.t 1))),none,0⟩,
⟨(some 13),(.x (.call (.c (.fn 57 [] [])) [(.t 12),(.c (.int .i64 (.ofNat 1)))])),none,0⟩,
⟨(some 11),(.q (.mv (.t 13))),none,0⟩,
⟨(some 14),(.q (.extract (.t 11) 0)),none,0⟩,
⟨(some 15),(.q (.extract (.t 11) 1)),none,0⟩,
⟨(some 8),(.a (.alloc 46 [(.bool false),.nilsl,.nilsl])),none,0⟩,
⟨none,(.x (.st 3 (.t 8) (.t 14))),none,0⟩,
⟨(some 9),(.q (.mv (.t 15))),none,0⟩])
(.seq (.seq (.reg [⟨(some 16),(.q (.mv (.t 9))),none,0⟩,
⟨(some 17),(.q (.bin .neq (.p .int) (.t 16) (.c (.int .i64 (.ofNat 0))))),none,0⟩])
(.cond (.t 17) (.seq (.reg [⟨(some 18),(.q (.build [(.bool false),.nilsl,.nilsl] [])),none,0⟩,
⟨(some 19),(.q (.mv (.t 9))),none,0⟩,
⟨none,(.x (.st 3 (.t 6) (.t 18))),none,0⟩,
⟨(some 7),(.q (.mv (.t 19))),none,0⟩])
.ret) .skip))
(.seq (.reg [⟨(some 21),(.q (.mv (.t 2))),none,0⟩,
⟨(some 22),(.x (.call (.c (.fn 57 [] [])) [(.t 21),(.c (.int .i64 (.ofNat 1)))])),none,0⟩,
⟨(some 20),(.q (.mv (.t 22))),none,0⟩,
⟨(some 23),(.q (.extract (.t 20) 0)),none,0⟩,
⟨(some 24),(.q (.extract (.t 20) 1)),none,0⟩,
⟨(some 10),(.a (.alloc 46 [(.bool false),.nilsl,.nilsl])),none,0⟩,
⟨none,(.x (.st 3 (.t 10) (.t 23))),none,0⟩,
⟨(some 9),(.q (.mv (.t 24))),none,0⟩])
(.seq (.seq (.reg [⟨(some 25),(.q (.mv (.t 9))),none,0⟩,
⟨(some 26),(.q (.bin .neq (.p .int) (.t 25) (.c (.int .i64 (.ofNat 0))))),none,0⟩])
(.cond (.t 26) (.seq (.reg [⟨(some 27),(.q (.build [(.bool false),.nilsl,.nilsl] [])),none,0⟩,
⟨(some 28),(.q (.mv (.t 9))),none,0⟩,
⟨none,(.x (.st 3 (.t 6) (.t 27))),none,0⟩,
⟨(some 7),(.q (.mv (.t 28))),none,0⟩])
.ret) .skip))
(.seq (.seq (.reg [⟨(some 30),(.q (.ld true 3 (.t 8))),none,0⟩,
⟨(some 31),(.q (.ld true 3 (.t 10))),none,0⟩,
⟨(some 32),(.x (.call (.c (.fn 85 [] [])) [(.t 30),(.t 31)])),none,0⟩,
⟨(some 29),(.q (.mv (.t 32))),none,0⟩,
⟨(some 33),(.q (.extract (.t 29) 0)),none,0⟩,
⟨(some 34),(.q (.extract (.t 29) 1)),none,0⟩,
⟨none,(.x (.st 3 (.t 8) (.t 33))),none,0⟩,
⟨(some 9),(.q (.mv (.t 34))),none,0⟩])
(.seq (.reg [⟨(some 35),(.q (.mv (.t 9))),none,0⟩,
⟨(some 36),(.q (.bin .neq (.p .int) (.t 35) (.c (.int .i64 (.ofNat 0))))),none,0⟩])
(.cond (.t 36) (.seq (.reg [⟨(some 37),(.q (.build [(.bool false),.nilsl,.nilsl] [])),none,0⟩,
⟨(some 38),(.q (.mv (.t 9))),none,0⟩,
⟨none,(.x (.st 3 (.t 6) (.t 37))),none,0⟩,
⟨(some 7),(.q (.mv (.t 38))),none,0⟩])
.ret) .skip)))
(.seq (.reg [⟨(some 39),(.q (.ld true 3 (.t 3))),none,0⟩,
⟨(some 40),(.q (.ld true 3 (.t 8))),none,0⟩,
⟨(some 41),(.x (.call (.c (.fn 86 [] [])) [(.t 39),(.t 40)])),none,0⟩,
⟨(some 42),(.q (.extract (.t 41) 0)),none,0⟩,
⟨(some 43),(.q (.extract (.t 41) 1)),none,0⟩,
⟨none,(.x (.st 3 (.t 6) (.t 42))),none,0⟩,
⟨(some 7),(.q (.mv (.t 43))),none,0⟩])
.ret)))))))⟩
theorem row60 : Row Tryz.prog (60, a60) := ⟨Tryz.f60, Tryz.func60, by kernel_rfl⟩
noncomputable def a67 : AFn :=
⟨8,[(.t 6)],(.seq (.reg [⟨(some 3),(.a (.box 25 (.t 0))),none,0⟩,
⟨(some 4),(.a (.box 113 (.t 1))),none,0⟩,
⟨(some 5),(.a (.box 3 (.t 2))),none,0⟩,
⟨(some 6),(.q (.mv (.c .nilfn))),none,0⟩])
(.seq (.reg [⟨(some 7),(.q (.mkFunc 90 [] [(.t 5),(.t 3),(.t 4)])),none,0⟩,
⟨(some 6),(.q (.mv (.t 7))),none,0⟩])
.ret))⟩
theorem row67 : Row Tryz.prog (67, a67) := ⟨Tryz.f67, Tryz.func67, by kernel_rfl⟩
noncomputable def a71 : AFn :=
⟨97,[(.t 2),(.t 3)],(.seq (.reg [⟨(some 1),(.a (.box 25 (.t 0))),none,0⟩,
⟨(some 2),(.q (.mv (.c .nilp))),none,0⟩,
⟨(some 3),(.q (.mv (.c (.int .i64 (.ofNat 0))))),none,0⟩])
(.seq (.seq (.reg [⟨(some 10),(.q (.faddr 0 (.t 1))),none,0⟩,
⟨(some 11),(.q (.ld false 1 (.t 10))),none,0⟩,
⟨(some 12),(.q (.bin .lss (.p .int) (.t 11) (.c (.int .i64 (.ofNat 1))))),none,0⟩,
⟨(some 13),(.q (.mv (.t 12))),none,0⟩,
⟨(some 14),(.q (.faddr 0 (.t 1))),(some (13,false)),0⟩,
⟨(some 15),(.q (.ld false 1 (.t 14))),(some (13,false)),0⟩,
⟨(some 16),(.q (.bin .gtr (.p .int) (.t 15) (.c (.int .i64 (.ofNat 4))))),(some (13,false)),0⟩,
⟨(some 17),(.q (.pick (.t 13) (.c (.bool true)) (.t 16))),none,0⟩,
⟨(some 18),(.q (.mv (.t 17))),none,0⟩,
⟨(some 19),(.q (.faddr 1 (.t 1))),(some (18,false)),0⟩,
⟨(some 20),(.q (.ld false 1 (.t 19))),(some (18,false)),0⟩,
⟨(some 21),(.q (.lenSl (.t 20))),(some (18,false)),0⟩,
⟨(some 22),(.q (.bin .lss (.p .int) (.t 21) (.c (.int .i64 (.ofNat 1))))),(some (18,false)),0⟩,
⟨(some 23),(.q (.pick (.t 18) (.c (.bool true)) (.t 22))),none,0⟩,
⟨(some 24),(.q (.mv (.t 23))),none,0⟩,
⟨(some 25),(.q (.faddr 1 (.t 1))),(some (24,false)),0⟩,
⟨(some 26),(.q (.ld false 1 (.t 25))),(some (24,false)),0⟩,
⟨(some 27),(.q (.lenSl (.t 26))),(some (24,false)),0⟩,
⟨(some 28),(.q (.bin .gtr (.p .int) (.t 27) (.c (.int .i64 (.ofNat 2000))))),(some (24,false)),0⟩,
⟨(some 29),(.q (.pick (.t 24) (.c (.bool true)) (.t 28))),none,0⟩,
⟨(some 30),(.q (.mv (.t 29))),none,0⟩,
⟨(some 31),(.q (.faddr 2 (.t 1))),(some (30,false)),0⟩,
⟨(some 32),(.q (.ld false 1 (.t 31))),(some (30,false)),0⟩,
⟨(some 33),(.q (.lenSl (.t 32))),(some (30,false)),0⟩,
⟨(some 34),(.q (.bin .gtr (.p .int) (.t 33) (.c (.int .i64 (.ofNat 200))))),(some (30,false)),0⟩,
⟨(some 35),(.q (.pick (.t 30) (.c (.bool true)) (.t 34))),none,0⟩])
(.cond (.t 35) (.seq (.reg [⟨(some 2),(.q (.mv (.c .nilp))),none,0⟩,
⟨(some 3),(.q (.mv (.c (.int .i64 (.ofNat 2))))),none,0⟩])
.ret) .skip))
(.seq (.reg [⟨(some 36),(.q (.ld true 3 (.t 1))),none,0⟩,
⟨(some 37),(.q (.build [(.int .i64 (.ofNat 0)),.nilsl,.nilsl,.nilsl,.nilsl,.nilsl] [(0,3,(.t 36))])),none,0⟩,
⟨(some 38),(.a (.box 141 (.t 37))),none,0⟩,
⟨(some 4),(.q (.mv (.t 38))),none,0⟩])
(.seq (.seq (.reg [⟨(some 39),(.q (.faddr 1 (.t 1))),none,0⟩,
⟨(some 40),(.q (.ld false 1 (.t 39))),none,0⟩,
⟨(some 41),(.q (.lenSl (.t 40))),none,0⟩,
⟨(some 42),(.q (.mv (.c (.int .i64 (.ofNat 0))))),none,0⟩])
(.block 0 (.loop (.seq (.reg [⟨(some 43),(.q (.bin .lss (.p .int) (.t 42) (.t 41))),none,0⟩])
(.seq (.cond (.t 43) .skip (.exit 0))
(.seq (.block 1 (.seq (.reg [⟨(some 44),(.q (.iaddr (.slice 6) (.t 40) (.t 42))),none,0⟩,
⟨(some 45),(.q (.ld true 6 (.t 44))),none,0⟩,
⟨(some 6),(.a (.alloc 73 [(.int .i64 (.ofNat 0)),(.int .i64 (.ofNat 0)),(.int .i64 (.ofNat 0)),.nilsl,.nilsl,.nilsl])),none,0⟩,
⟨none,(.x (.st 6 (.t 6) (.t 45))),none,0⟩])
(.seq (.reg [⟨(some 46),(.q (.mv (.t 4))),none,0⟩,
⟨(some 47),(.q (.ld true 6 (.t 6))),none,0⟩,
⟨(some 48),(.x (.call (.c (.fn 91 [] [])) [(.t 46),(.t 47)])),none,0⟩,
⟨(some 7),(.q (.mv (.t 48))),none,0⟩])
(.seq (.reg [⟨(some 49),(.q (.mv (.t 7))),none,0⟩,
⟨(some 50),(.q (.bin .neq (.p .int) (.t 49) (.c (.int .i64 (.ofNat 0))))),none,0⟩])
(.cond (.t 50) (.seq (.reg [⟨(some 51),(.q (.mv (.t 7))),none,0⟩,
⟨(some 2),(.q (.mv (.c .nilp))),none,0⟩,
⟨(some 3),(.q (.mv (.t 51))),none,0⟩])
.ret) .skip)))))
(.reg [⟨(some 52),(.q (.bin .add (.p .int) (.t 42) (.c (.int .i64 (.ofNat 1))))),none,0⟩,
⟨(some 42),(.q (.mv (.t 52))),none,0⟩])))))))
(.seq (.drw [⟨(some 53),(.q (.mv (.t 4))),none,0⟩,
⟨(some 54),(.q (.mv (.t 4))),none,0⟩,
⟨(some 55),(.q (.mv (.t 4))),none,0⟩,
⟨(some 56),(.q (.faddr 1 (.t 1))),none,0⟩,
⟨(some 57),(.q (.ld false 1 (.t 56))),none,8⟩,
⟨(some 58),(.q (.lenSl (.t 57))),none,24⟩,
⟨(some 59),(.a (.mkSlice 3 1 8 [(.int .i64 (.ofNat 0))] (.t 58) (.t 58))),none,56⟩,
⟨(some 60),(.q (.faddr 1 (.t 1))),none,0⟩,
⟨(some 61),(.q (.ld false 1 (.t 60))),none,128⟩,
⟨(some 62),(.q (.lenSl (.t 61))),none,384⟩,
⟨(some 63),(.a (.mkSlice 3 1 8 [(.int .i64 (.ofNat 0))] (.t 62) (.t 62))),none,896⟩,
⟨(some 64),(.q (.faddr 1 (.t 1))),none,0⟩,
⟨(some 65),(.q (.ld false 1 (.t 64))),none,2048⟩,
⟨(some 66),(.q (.lenSl (.t 65))),none,6144⟩,
⟨(some 67),(.a (.mkSlice 3 1 8 [(.int .i64 (.ofNat 0))] (.t 66) (.t 66))),none,14336⟩,
⟨(some 68),(.q (.nilchk (.t 53))),none,121⟩,
⟨(some 69),(.q (.faddr 3 (.t 68))),none,32889⟩,
⟨none,(.x (.st 1 (.t 69) (.t 59))),none,98425⟩,
⟨(some 70),(.q (.nilchk (.t 54))),none,231419⟩,
⟨(some 71),(.q (.faddr 4 (.t 70))),none,493563⟩,
⟨none,(.x (.st 1 (.t 71) (.t 63))),none,1017851⟩,
⟨(some 72),(.q (.nilchk (.t 55))),none,2097151⟩,
⟨(some 73),(.q (.faddr 5 (.t 72))),none,4194303⟩,
⟨none,(.x (.st 1 (.t 73) (.t 67))),none,8388607⟩])
(.seq (.seq (.reg [⟨(some 75),(.q (.mv (.t 4))),none,0⟩,
⟨(some 76),(.q (.faddr 1 (.t 1))),none,0⟩,
⟨(some 77),(.q (.ld false 1 (.t 76))),none,0⟩,
⟨(some 78),(.x (.call (.c (.fn 92 [] [])) [(.t 75),(.c (.int .i64 (.negSucc 0))),(.c (.int .i64 (.ofNat 0))),(.t 77)])),none,0⟩,
⟨(some 74),(.q (.mv (.t 78))),none,0⟩,
⟨(some 79),(.q (.extract (.t 74) 0)),none,0⟩,
⟨(some 80),(.q (.extract (.t 74) 1)),none,0⟩,
⟨(some 8),(.q (.mv (.t 79))),none,0⟩,
⟨(some 9),(.q (.mv (.t 80))),none,0⟩])
(.seq (.reg [⟨(some 81),(.q (.mv (.t 9))),none,0⟩,
⟨(some 82),(.q (.un .not (.t 81))),none,0⟩,
⟨(some 83),(.q (.mv (.t 82))),none,0⟩,
⟨(some 84),(.q (.mv (.t 8))),(some (83,false)),0⟩,
⟨(some 85),(.q (.lenSl (.t 84))),(some (83,false)),0⟩,
⟨(some 86),(.q (.bin .gtr (.p .int) (.t 85) (.c (.int .i64 (.ofNat 0))))),(some (83,false)),0⟩,
⟨(some 87),(.q (.pick (.t 83) (.c (.bool true)) (.t 86))),none,0⟩])
(.cond (.t 87) (.seq (.reg [⟨(some 2),(.q (.mv (.c .nilp))),none,0⟩,
⟨(some 3),(.q (.mv (.c (.int .i64 (.ofNat 9))))),none,0⟩])
.ret) .skip)))
(.seq (.seq (.reg [⟨(some 88),(.q (.mv (.t 4))),none,0⟩,
⟨(some 89),(.q (.nilchk (.t 88))),none,0⟩,
⟨(some 90),(.q (.faddr 4 (.t 89))),none,0⟩,
⟨(some 91),(.q (.ld false 1 (.t 90))),none,0⟩,
⟨(some 92),(.x (.call (.c (.fn 93 [] [])) [(.t 91)])),none,0⟩,
⟨(some 93),(.q (.bin .gtr (.p .int) (.t 92) (.c (.int .i64 (.ofNat 40))))),none,0⟩])
(.cond (.t 93) (.seq (.reg [⟨(some 2),(.q (.mv (.c .nilp))),none,0⟩,
⟨(some 3),(.q (.mv (.c (.int .i64 (.ofNat 5))))),none,0⟩])
.ret) .skip))
(.seq (.reg [⟨(some 94),(.q (.mv (.t 4))),none,0⟩,
⟨(some 95),(.q (.mv (.t 4))),none,0⟩,
⟨(some 96),(.x (.call (.c (.fn 94 [] [])) [(.t 95)])),none,0⟩,
⟨(some 2),(.q (.mv (.t 94))),none,0⟩,
⟨(some 3),(.q (.mv (.t 96))),none,0⟩])
.ret))))))))⟩
theorem row71 : Row Tryz.prog (71, a71) := ⟨Tryz.f71, Tryz.func71, by kernel_rfl⟩
noncomputable def a72 : AFn :=
⟨39,[],(.seq (.reg [⟨(some 7),(.q (.mv (.t 0))),none,0⟩,
⟨(some 8),(.q (.nilchk (.t 7))),none,0⟩,
⟨(some 9),(.q (.faddr 3 (.t 8))),none,0⟩,
⟨(some 10),(.q (.ld false 1 (.t 9))),none,0⟩,
⟨(some 11),(.q (.mv (.t 1))),none,0⟩,
⟨(some 4),(.q (.mv (.t 10))),none,0⟩,
⟨(some 5),(.q (.mv (.t 11))),none,0⟩])
(.seq (.block 0 (.loop (.seq (.seq (.reg [⟨(some 12),(.q (.mv (.t 5))),none,0⟩,
⟨(some 13),(.q (.bin .neq (.p .int) (.t 12) (.c (.int .i64 (.ofNat 0))))),none,0⟩])
(.cond (.t 13) .skip (.exit 0)))
(.block 1 (.drw [⟨(some 14),(.q (.mv (.t 5))),none,0⟩,
⟨(some 15),(.q (.mv (.t 4))),none,0⟩,
⟨(some 16),(.q (.mv (.t 5))),none,0⟩,
⟨(some 17),(.q (.bin .rem (.p .int) (.t 15) (.t 16))),none,6⟩,
⟨(some 4),(.q (.mv (.t 14))),none,3⟩,
⟨(some 5),(.q (.mv (.t 17))),none,31⟩])))))
(.seq (.reg [⟨(some 18),(.q (.mv (.t 1))),none,0⟩,
⟨(some 19),(.q (.mv (.t 4))),none,0⟩,
⟨(some 20),(.q (.bin .quo (.p .int) (.t 18) (.t 19))),none,0⟩,
⟨(some 6),(.q (.mv (.t 20))),none,0⟩])
(.seq (.seq (.drw [⟨(some 21),(.q (.mv (.t 0))),none,0⟩,
⟨(some 22),(.q (.nilchk (.t 21))),none,1⟩,
⟨(some 23),(.q (.faddr 3 (.t 22))),none,3⟩,
⟨(some 24),(.q (.ld false 1 (.t 23))),none,7⟩,
⟨(some 25),(.q (.mv (.t 6))),none,0⟩,
⟨(some 26),(.q (.bin .quo (.p .int) (.c (.int .i64 (.ofNat 1000000000000000))) (.t 25))),none,16⟩,
⟨(some 27),(.q (.bin .gtr (.p .int) (.t 24) (.t 26))),none,63⟩])
(.cond (.t 27) (.seq (.reg [⟨(some 28),(.q (.mv (.t 0))),none,0⟩,
⟨(some 29),(.q (.nilchk (.t 28))),none,0⟩,
⟨(some 30),(.q (.faddr 4 (.t 29))),none,0⟩,
⟨none,(.x (.st 1 (.t 30) (.c (.bool true)))),none,0⟩])
.ret) .skip))
(.reg [⟨(some 31),(.q (.mv (.t 0))),none,0⟩,
⟨(some 32),(.q (.nilchk (.t 31))),none,0⟩,
⟨(some 33),(.q (.faddr 3 (.t 32))),none,0⟩,
⟨(some 34),(.q (.ld false 1 (.t 33))),none,0⟩,
⟨(some 35),(.q (.mv (.t 6))),none,0⟩,
⟨(some 36),(.q (.bin .mul (.p .int) (.t 34) (.t 35))),none,0⟩,
⟨(some 37),(.q (.nilchk (.t 31))),none,0⟩,
⟨(some 38),(.q (.faddr 3 (.t 37))),none,0⟩,
⟨none,(.x (.st 1 (.t 38) (.t 36))),none,0⟩])))))⟩
theorem row72 : Row Tryz.prog (72, a72) := ⟨Tryz.f72, Tryz.func72, by kernel_rfl⟩
noncomputable def a73 : AFn :=
⟨17,[(.t 2)],(.seq (.reg [⟨(some 2),(.q (.mv (.c (.int .i64 (.ofNat 0))))),none,0⟩])
(.seq (.reg [⟨(some 3),(.q (.mv (.c (.int .i64 (.ofNat 0))))),none,0⟩])
(.seq (.seq (.reg [⟨(some 6),(.q (.mv (.t 0))),none,0⟩,
⟨(some 7),(.q (.lenSl (.t 6))),none,0⟩,
⟨(some 8),(.q (.mv (.c (.int .i64 (.ofNat 0))))),none,0⟩])
(.block 0 (.loop (.seq (.reg [⟨(some 9),(.q (.bin .lss (.p .int) (.t 8) (.t 7))),none,0⟩])
(.seq (.cond (.t 9) .skip (.exit 0))
(.seq (.block 1 (.seq (.reg [⟨(some 10),(.q (.iaddr (.slice 1) (.t 6) (.t 8))),none,0⟩,
⟨(some 11),(.q (.ld false 1 (.t 10))),none,0⟩,
⟨(some 5),(.q (.mv (.t 11))),none,0⟩])
(.reg [⟨(some 12),(.q (.mv (.t 3))),none,0⟩,
⟨(some 13),(.q (.mv (.t 5))),none,0⟩,
⟨(some 14),(.q (.bin .add (.p .int) (.t 12) (.t 13))),none,0⟩,
⟨(some 3),(.q (.mv (.t 14))),none,0⟩])))
(.reg [⟨(some 15),(.q (.bin .add (.p .int) (.t 8) (.c (.int .i64 (.ofNat 1))))),none,0⟩,
⟨(some 8),(.q (.mv (.t 15))),none,0⟩])))))))
(.seq (.reg [⟨(some 16),(.q (.mv (.t 3))),none,0⟩,
⟨(some 2),(.q (.mv (.t 16))),none,0⟩])
.ret))))⟩
theorem row73 : Row Tryz.prog (73, a73) := ⟨Tryz.f73, Tryz.func73, by kernel_rfl⟩
noncomputable def a74 : AFn :=
⟨55,[(.cell 2 false 1)],(.seq (.reg [⟨(some 1),(.a (.box 61 (.t 0))),none,0⟩,
⟨(some 2),(.a (.alloc 29 [(.int .i64 (.ofNat 0))])),none,0⟩])
(.seq (.seq (.reg [⟨(some 7),(.q (.faddr 0 (.t 1))),none,0⟩,
⟨(some 8),(.q (.ld false 1 (.t 7))),none,0⟩,
⟨(some 9),(.q (.bin .lss (.p .int) (.t 8) (.c (.int .i64 (.ofNat 1))))),none,0⟩,
⟨(some 10),(.q (.mv (.t 9))),none,0⟩,
⟨(some 11),(.q (.faddr 0 (.t 1))),(some (10,false)),0⟩,
⟨(some 12),(.q (.ld false 1 (.t 11))),(some (10,false)),0⟩,
⟨(some 13),(.q (.bin .gtr (.p .int) (.t 12) (.c (.int .i64 (.ofNat 30))))),(some (10,false)),0⟩,
⟨(some 14),(.q (.pick (.t 10) (.c (.bool true)) (.t 13))),none,0⟩])
(.cond (.t 14) (.seq (.reg [⟨none,(.x (.st 1 (.t 2) (.c (.int .i64 (.ofNat 2))))),none,0⟩])
.ret) .skip))
(.seq (.seq (.reg [⟨(some 15),(.q (.faddr 1 (.t 1))),none,0⟩,
⟨(some 16),(.q (.ld false 1 (.t 15))),none,0⟩,
⟨(some 17),(.q (.lenSl (.t 16))),none,0⟩,
⟨(some 18),(.q (.bin .gtr (.p .int) (.t 17) (.c (.int .i64 (.ofNat 200))))),none,0⟩])
(.cond (.t 18) (.seq (.reg [⟨none,(.x (.st 1 (.t 2) (.c (.int .i64 (.ofNat 4))))),none,0⟩])
.ret) .skip))
(.seq (.seq (.reg [⟨(some 19),(.q (.faddr 1 (.t 1))),none,0⟩,
⟨(some 20),(.q (.ld false 1 (.t 19))),none,0⟩,
⟨(some 21),(.x (.call (.c (.fn 95 [] [])) [(.t 20)])),none,0⟩])
(.block 0 (.rng (.t 21) [22] (.reg [⟨(some 3),(.q (.mv (.t 22))),none,0⟩]) (.block 1 (.seq (.seq (.reg [⟨(some 23),(.q (.mv (.t 3))),none,0⟩,
⟨(some 24),(.q (.lenSl (.t 23))),none,0⟩,
⟨(some 25),(.q (.bin .lss (.p .int) (.t 24) (.c (.int .i64 (.ofNat 1))))),none,0⟩,
⟨(some 26),(.q (.mv (.t 25))),none,0⟩,
⟨(some 27),(.q (.mv (.t 3))),(some (26,false)),0⟩,
⟨(some 28),(.q (.lenSl (.t 27))),(some (26,false)),0⟩,
⟨(some 29),(.q (.bin .gtr (.p .int) (.t 28) (.c (.int .i64 (.ofNat 10))))),(some (26,false)),0⟩,
⟨(some 30),(.q (.pick (.t 26) (.c (.bool true)) (.t 29))),none,0⟩])
(.cond (.t 30) (.seq (.reg [⟨none,(.x (.st 1 (.t 2) (.c (.int .i64 (.ofNat 3))))),none,0⟩])
.ret) .skip))
(.seq (.reg [⟨(some 4),(.q (.mv (.c (.int .i64 (.ofNat 0))))),none,0⟩])
(.seq (.seq (.reg [⟨(some 31),(.q (.mv (.t 3))),none,0⟩,
⟨(some 32),(.q (.lenSl (.t 31))),none,0⟩,
⟨(some 33),(.q (.mv (.c (.int .i64 (.ofNat 0))))),none,0⟩])
(.block 2 (.loop (.seq (.reg [⟨(some 34),(.q (.bin .lss (.p .int) (.t 33) (.t 32))),none,0⟩])
(.seq (.cond (.t 34) .skip (.exit 2))
(.seq (.block 3 (.seq (.reg [⟨(some 35),(.q (.iaddr (.slice 1) (.t 31) (.t 33))),none,0⟩,
⟨(some 36),(.q (.ld false 1 (.t 35))),none,0⟩,
⟨(some 6),(.q (.mv (.t 36))),none,0⟩])
(.seq (.seq (.reg [⟨(some 37),(.q (.mv (.t 6))),none,0⟩,
⟨(some 38),(.q (.bin .lss (.p .int) (.t 37) (.c (.int .i64 (.ofNat 0))))),none,0⟩,
⟨(some 39),(.q (.mv (.t 38))),none,0⟩,
⟨(some 40),(.q (.mv (.t 6))),(some (39,false)),0⟩,
⟨(some 41),(.q (.faddr 0 (.t 1))),(some (39,false)),0⟩,
⟨(some 42),(.q (.ld false 1 (.t 41))),(some (39,false)),0⟩,
⟨(some 43),(.q (.bin .shl (.p .int) (.c (.int .i64 (.ofNat 1))) (.t 42))),(some (39,false)),0⟩,
⟨(some 44),(.q (.bin .gtr (.p .int) (.t 40) (.t 43))),(some (39,false)),0⟩,
⟨(some 45),(.q (.pick (.t 39) (.c (.bool true)) (.t 44))),none,0⟩])
(.cond (.t 45) (.seq (.reg [⟨none,(.x (.st 1 (.t 2) (.c (.int .i64 (.ofNat 2))))),none,0⟩])
.ret) .skip))
(.reg [⟨(some 46),(.q (.mv (.t 4))),none,0⟩,
⟨(some 47),(.q (.mv (.t 6))),none,0⟩,
⟨(some 48),(.q (.bin .add (.p .int) (.t 46) (.t 47))),none,0⟩,
⟨(some 4),(.q (.mv (.t 48))),none,0⟩]))))
(.reg [⟨(some 49),(.q (.bin .add (.p .int) (.t 33) (.c (.int .i64 (.ofNat 1))))),none,0⟩,
⟨(some 33),(.q (.mv (.t 49))),none,0⟩])))))))
(.seq (.reg [⟨(some 50),(.q (.mv (.t 4))),none,0⟩,
⟨(some 51),(.q (.faddr 0 (.t 1))),none,0⟩,
⟨(some 52),(.q (.ld false 1 (.t 51))),none,0⟩,
⟨(some 53),(.q (.bin .shl (.p .int) (.c (.int .i64 (.ofNat 1))) (.t 52))),none,0⟩,
⟨(some 54),(.q (.bin .neq (.p .int) (.t 50) (.t 53))),none,0⟩])
(.cond (.t 54) (.seq (.reg [⟨none,(.x (.st 1 (.t 2) (.c (.int .i64 (.ofNat 14))))),none,0⟩])
.ret) .skip)))))))))
(.seq (.reg [⟨none,(.x (.st 1 (.t 2) (.c (.int .i64 (.ofNat 0))))),none,0⟩])
.ret)))))⟩
theorem row74 : Row Tryz.prog (74, a74) := ⟨Tryz.f74, Tryz.func74, by kernel_rfl⟩
noncomputable def a75 : AFn :=
⟨12,[(.t 4)],(.seq (.reg [⟨(some 4),(.q (.mv (.c (.int .i64 (.ofNat 0))))),none,0⟩])
(.seq (.block 0 (.loop (.seq (.seq (.reg [⟨(some 5),(.q (.mv (.t 1))),none,0⟩,
⟨(some 6),(.q (.bin .neq (.p .int) (.t 5) (.c (.int .i64 (.ofNat 0))))),none,0⟩])
(.cond (.t 6) .skip (.exit 0)))
(.block 1 (.drw [⟨(some 7),(.q (.mv (.t 1))),none,0⟩,
⟨(some 8),(.q (.mv (.t 0))),none,0⟩,
⟨(some 9),(.q (.mv (.t 1))),none,0⟩,
⟨(some 10),(.q (.bin .rem (.p .int) (.t 8) (.t 9))),none,6⟩,
⟨(some 0),(.q (.mv (.t 7))),none,3⟩,
⟨(some 1),(.q (.mv (.t 10))),none,31⟩])))))
(.seq (.reg [⟨(some 11),(.q (.mv (.t 0))),none,0⟩,
⟨(some 4),(.q (.mv (.t 11))),none,0⟩])
.ret)))⟩
theorem row75 : Row Tryz.prog (75, a75) := ⟨Tryz.f75, Tryz.func75, by kernel_rfl⟩
noncomputable def a76 : AFn :=
⟨11,[(.t 4)],(.seq (.reg [⟨(some 2),(.a (.box 73 (.t 0))),none,0⟩,
⟨(some 4),(.q (.mv (.c .niliface))),none,0⟩])
(.seq (.seq (.reg [⟨(some 5),(.q (.faddr 0 (.t 2))),none,0⟩,
⟨(some 6),(.q (.ld false 1 (.t 5))),none,0⟩,
⟨(some 7),(.q (.bin .eql (.p .int) (.t 6) (.c (.int .i64 (.ofNat 1))))),none,0⟩])
(.cond (.t 7) (.seq (.reg [⟨(some 8),(.q (.build [] [])),none,0⟩,
⟨(some 9),(.q (.mkIface 102 (.t 8))),none,0⟩,
⟨(some 4),(.q (.mv (.t 9))),none,0⟩])
.ret) .skip))
(.seq (.reg [⟨(some 10),(.q (.mv (.t 1))),none,0⟩,
⟨(some 4),(.q (.mv (.t 10))),none,0⟩])
.ret)))⟩
theorem row76 : Row Tryz.prog (76, a76) := ⟨Tryz.f76, Tryz.func76, by kernel_rfl⟩
noncomputable def a81 : AFn :=
⟨39,[(.cell 6 true 3)],(.seq (.reg [⟨(some 6),(.a (.alloc 46 [(.bool false),.nilsl,.nilsl])),none,0⟩])
(.seq (.seq (.reg [⟨(some 8),(.q (.mv (.t 1))),none,0⟩,
⟨(some 9),(.q (.lenSl (.t 8))),none,0⟩,
⟨(some 10),(.q (.bin .eql (.p .int) (.t 9) (.c (.int .i64 (.ofNat 0))))),none,0⟩])
(.cond (.t 10) (.seq (.reg [⟨(some 11),(.x (.call (.c (.fn 97 [] [])) [])),none,0⟩,
⟨none,(.x (.st 3 (.t 6) (.t 11))),none,0⟩])
.ret) .skip))
(.seq (.seq (.reg [⟨(some 12),(.q (.mv (.t 1))),none,0⟩,
⟨(some 13),(.q (.lenSl (.t 12))),none,0⟩,
⟨(some 14),(.q (.bin .leq (.p .int) (.t 13) (.c (.int .i64 (.ofNat 2))))),none,0⟩,
⟨(some 15),(.q (.mv (.t 14))),none,0⟩,
⟨(some 16),(.q (.mv (.t 2))),(some (15,true)),0⟩,
⟨(some 17),(.q (.lenSl (.t 16))),(some (15,true)),0⟩,
⟨(some 18),(.q (.bin .leq (.p .int) (.t 17) (.c (.int .i64 (.ofNat 2))))),(some (15,true)),0⟩,
⟨(some 19),(.q (.pick (.t 15) (.t 18) (.c (.bool false)))),none,0⟩])
(.cond (.t 19) (.seq (.reg [⟨(some 20),(.q (.mv (.t 0))),none,0⟩,
⟨(some 21),(.q (.mv (.t 1))),none,0⟩,
⟨(some 22),(.x (.call (.c (.fn 99 [] [])) [(.t 21)])),none,0⟩,
⟨(some 23),(.q (.mv (.t 2))),none,0⟩,
⟨(some 24),(.x (.call (.c (.fn 99 [] [])) [(.t 23)])),none,0⟩,
⟨(some 25),(.x (.call (.c (.fn 98 [] [])) [(.t 20),(.t 22),(.t 24)])),none,0⟩,
⟨none,(.x (.st 3 (.t 6) (.t 25))),none,0⟩])
.ret) .skip))
(.seq (.reg [⟨(some 26),(.q (.mv (.t 1))),none,0⟩,
⟨(some 27),(.q (.mv (.t 2))),none,0⟩,
⟨(some 28),(.x (.call (.c (.fn 100 [] [])) [(.t 26),(.t 27)])),none,0⟩,
⟨(some 7),(.q (.mv (.t 28))),none,0⟩])
(.seq (.reg [⟨(some 29),(.q (.mv (.t 0))),none,0⟩,
⟨(some 30),(.q (.mv (.t 1))),none,0⟩,
⟨(some 31),(.q (.mv (.t 7))),none,0⟩,
⟨(some 32),(.x (.call (.c (.fn 102 [] [])) [(.t 30),(.t 31)])),none,0⟩,
⟨(some 33),(.x (.call (.c (.fn 101 [] [])) [(.t 32)])),none,0⟩,
⟨(some 34),(.q (.mv (.t 2))),none,0⟩,
⟨(some 35),(.q (.mv (.t 7))),none,0⟩,
⟨(some 36),(.x (.call (.c (.fn 102 [] [])) [(.t 34),(.t 35)])),none,0⟩,
⟨(some 37),(.x (.call (.c (.fn 101 [] [])) [(.t 36)])),none,0⟩,
⟨(some 38),(.q (.build [(.bool false),.nilsl,.nilsl] [(0,1,(.t 29)),(1,1,(.t 33)),(2,1,(.t 37))])),none,0⟩,
⟨none,(.x (.st 3 (.t 6) (.t 38))),none,0⟩])
.ret)))))⟩
theorem row81 : Row Tryz.prog (81, a81) := ⟨Tryz.f81, Tryz.func81, by kernel_rfl⟩
noncomputable def a82 : AFn :=
⟨15,[(.t 2)],(.seq (.reg [⟨(some 2),(.q (.mv (.c .nilsl))),none,0⟩])
(.seq (.reg [⟨(some 3),(.q (.mv (.c .nilsl))),none,0⟩])
(.seq (.block 0 (.loop (.seq (.seq (.reg [⟨(some 4),(.q (.mv (.t 0))),none,0⟩,
⟨(some 5),(.q (.bin .gtr (.p .int) (.t 4) (.c (.int .u64 (.ofNat 0))))),none,0⟩])
(.cond (.t 5) .skip (.exit 0)))
(.block 1 (.seq (.reg [⟨(some 6),(.q (.mv (.t 3))),none,0⟩,
⟨(some 7),(.q (.mv (.t 0))),none,0⟩,
⟨(some 8),(.q (.bin .rem (.p .int) (.t 7) (.c (.int .u64 (.ofNat 1000000000))))),none,0⟩,
⟨(some 9),(.q (.conv (.int .u32) (.t 8))),none,0⟩,
⟨(some 10),(.a (.bslice 97 1 1 [(.int .u32 (.ofNat 0))] [(0,(.t 9))])),none,0⟩,
⟨(some 11),(.x (.app 97 1 4 (.t 6) (.t 10))),none,0⟩,
⟨(some 3),(.q (.mv (.t 11))),none,0⟩])
(.reg [⟨(some 12),(.q (.mv (.t 0))),none,0⟩,
⟨(some 13),(.q (.bin .quo (.p .int) (.t 12) (.c (.int .u64 (.ofNat 1000000000))))),none,0⟩,
⟨(some 0),(.q (.mv (.t 13))),none,0⟩]))))))
(.seq (.reg [⟨(some 14),(.q (.mv (.t 3))),none,0⟩,
⟨(some 2),(.q (.mv (.t 14))),none,0⟩])
.ret))))⟩
theorem row82 : Row Tryz.prog (82, a82) := ⟨Tryz.f82, Tryz.func82, by kernel_rfl⟩
noncomputable def a83 : AFn :=
⟨10,[(.t 2)],(.seq (.reg [⟨(some 2),(.q (.mv (.c (.int .u64 (.ofNat 0))))),none,0⟩])
(.seq (.seq (.reg [⟨(some 3),(.q (.mv (.t 0))),none,0⟩,
⟨(some 4),(.q (.bin .lss (.p .int) (.t 3) (.c (.int .i64 (.ofNat 0))))),none,0⟩])
(.cond (.t 4) (.seq (.reg [⟨(some 5),(.q (.mv (.t 0))),none,0⟩,
⟨(some 6),(.q (.conv (.int .u64) (.t 5))),none,0⟩,
⟨(some 7),(.q (.un .neg (.t 6))),none,0⟩,
⟨(some 2),(.q (.mv (.t 7))),none,0⟩])
.ret) .skip))
(.seq (.reg [⟨(some 8),(.q (.mv (.t 0))),none,0⟩,
⟨(some 9),(.q (.conv (.int .u64) (.t 8))),none,0⟩,
⟨(some 2),(.q (.mv (.t 9))),none,0⟩])
.ret)))⟩
theorem row83 : Row Tryz.prog (83, a83) := ⟨Tryz.f83, Tryz.func83, by kernel_rfl⟩
noncomputable def a84 : AFn :=
⟨26,[(.cell 4 true 3),(.t 5)],(.seq (.reg [⟨(some 2),(.a (.box 46 (.t 0))),none,0⟩,
⟨(some 3),(.a (.box 46 (.t 1))),none,0⟩,
⟨(some 4),(.a (.alloc 46 [(.bool false),.nilsl,.nilsl])),none,0⟩,
⟨(some 5),(.q (.mv (.c (.int .i64 (.ofNat 0))))),none,0⟩])
(.seq (.seq (.reg [⟨(some 7),(.q (.ld true 3 (.t 2))),none,0⟩,
⟨(some 8),(.q (.ld true 3 (.t 3))),none,0⟩,
⟨(some 9),(.x (.call (.c (.fn 103 [] [])) [(.t 7),(.t 8)])),none,0⟩,
⟨(some 6),(.q (.mv (.t 9))),none,0⟩])
(.seq (.reg [⟨(some 10),(.q (.mv (.t 6))),none,0⟩,
⟨(some 11),(.q (.bin .neq (.p .int) (.t 10) (.c (.int .i64 (.ofNat 0))))),none,0⟩])
(.cond (.t 11) (.seq (.reg [⟨(some 12),(.q (.build [(.bool false),.nilsl,.nilsl] [])),none,0⟩,
⟨(some 13),(.q (.mv (.t 6))),none,0⟩,
⟨none,(.x (.st 3 (.t 4) (.t 12))),none,0⟩,
⟨(some 5),(.q (.mv (.t 13))),none,0⟩])
.ret) .skip)))
(.seq (.seq (.reg [⟨(some 14),(.q (.ld true 3 (.t 3))),none,0⟩,
⟨(some 15),(.x (.call (.c (.fn 104 [] [])) [(.t 14)])),none,0⟩,
⟨(some 16),(.q (.bin .eql (.p .int) (.t 15) (.c (.int .i64 (.ofNat 1))))),none,0⟩])
(.cond (.t 16) (.seq (.reg [⟨(some 17),(.q (.build [(.bool false),.nilsl,.nilsl] [])),none,0⟩,
⟨none,(.x (.st 3 (.t 4) (.t 17))),none,0⟩,
⟨(some 5),(.q (.mv (.c (.int .i64 (.ofNat 6))))),none,0⟩])
.ret) .skip))
(.seq (.drw [⟨(some 18),(.q (.ld true 3 (.t 2))),none,0⟩,
⟨(some 19),(.q (.ld true 3 (.t 3))),none,0⟩,
⟨(some 20),(.x (.call (.c (.fn 106 [] [])) [(.t 19)])),none,2⟩,
⟨(some 21),(.q (.build [(.bool false),.nilsl,.nilsl,(.bool false),.nilsl,.nilsl] [(0,3,(.t 18)),(3,3,(.t 20))])),none,7⟩,
⟨(some 22),(.a (.bslice 158 6 1 [(.bool false),.nilsl,.nilsl,(.bool false),.nilsl,.nilsl] [(0,(.t 21))])),none,15⟩,
⟨(some 23),(.x (.call (.c (.fn 105 [] [])) [(.t 22)])),none,31⟩,
⟨(some 24),(.q (.extract (.t 23) 0)),none,63⟩,
⟨(some 25),(.q (.extract (.t 23) 1)),none,63⟩,
⟨none,(.x (.st 3 (.t 4) (.t 24))),none,255⟩,
⟨(some 5),(.q (.mv (.t 25))),none,511⟩])
.ret))))⟩
theorem row84 : Row Tryz.prog (84, a84) := ⟨Tryz.f84, Tryz.func84, by kernel_rfl⟩
noncomputable def a85 : AFn :=
⟨21,[(.cell 4 true 3),(.t 5)],(.seq (.reg [⟨(some 2),(.a (.box 46 (.t 0))),none,0⟩,
⟨(some 3),(.a (.box 46 (.t 1))),none,0⟩,
⟨(some 4),(.a (.alloc 46 [(.bool false),.nilsl,.nilsl])),none,0⟩,
⟨(some 5),(.q (.mv (.c (.int .i64 (.ofNat 0))))),none,0⟩])
(.seq (.seq (.reg [⟨(some 7),(.q (.ld true 3 (.t 2))),none,0⟩,
⟨(some 8),(.q (.ld true 3 (.t 3))),none,0⟩,
⟨(some 9),(.x (.call (.c (.fn 103 [] [])) [(.t 7),(.t 8)])),none,0⟩,
⟨(some 6),(.q (.mv (.t 9))),none,0⟩])
(.seq (.reg [⟨(some 10),(.q (.mv (.t 6))),none,0⟩,
⟨(some 11),(.q (.bin .neq (.p .int) (.t 10) (.c (.int .i64 (.ofNat 0))))),none,0⟩])
(.cond (.t 11) (.seq (.reg [⟨(some 12),(.q (.build [(.bool false),.nilsl,.nilsl] [])),none,0⟩,
⟨(some 13),(.q (.mv (.t 6))),none,0⟩,
⟨none,(.x (.st 3 (.t 4) (.t 12))),none,0⟩,
⟨(some 5),(.q (.mv (.t 13))),none,0⟩])
.ret) .skip)))
(.seq (.reg [⟨(some 14),(.q (.ld true 3 (.t 2))),none,0⟩,
⟨(some 15),(.q (.ld true 3 (.t 3))),none,0⟩,
⟨(some 16),(.q (.build [(.bool false),.nilsl,.nilsl,(.bool false),.nilsl,.nilsl] [(0,3,(.t 14)),(3,3,(.t 15))])),none,0⟩,
⟨(some 17),(.a (.bslice 158 6 1 [(.bool false),.nilsl,.nilsl,(.bool false),.nilsl,.nilsl] [(0,(.t 16))])),none,0⟩,
⟨(some 18),(.x (.call (.c (.fn 105 [] [])) [(.t 17)])),none,0⟩,
⟨(some 19),(.q (.extract (.t 18) 0)),none,0⟩,
⟨(some 20),(.q (.extract (.t 18) 1)),none,0⟩,
⟨none,(.x (.st 3 (.t 4) (.t 19))),none,0⟩,
⟨(some 5),(.q (.mv (.t 20))),none,0⟩])
.ret)))⟩
theorem row85 : Row Tryz.prog (85, a85) := ⟨Tryz.f85, Tryz.func85, by kernel_rfl⟩
noncomputable def a86 : AFn :=
⟨27,[(.cell 4 true 3),(.t 5)],(.seq (.reg [⟨(some 2),(.a (.box 46 (.t 0))),none,0⟩,
⟨(some 3),(.a (.box 46 (.t 1))),none,0⟩,
⟨(some 4),(.a (.alloc 46 [(.bool false),.nilsl,.nilsl])),none,0⟩,
⟨(some 5),(.q (.mv (.c (.int .i64 (.ofNat 0))))),none,0⟩])
(.seq (.seq (.reg [⟨(some 8),(.q (.ld true 3 (.t 2))),none,0⟩,
⟨(some 9),(.q (.ld true 3 (.t 3))),none,0⟩,
⟨(some 10),(.x (.call (.c (.fn 103 [] [])) [(.t 8),(.t 9)])),none,0⟩,
⟨(some 6),(.q (.mv (.t 10))),none,0⟩])
(.seq (.reg [⟨(some 11),(.q (.mv (.t 6))),none,0⟩,
⟨(some 12),(.q (.bin .neq (.p .int) (.t 11) (.c (.int .i64 (.ofNat 0))))),none,0⟩])
(.cond (.t 12) (.seq (.reg [⟨(some 13),(.q (.build [(.bool false),.nilsl,.nilsl] [])),none,0⟩,
⟨(some 14),(.q (.mv (.t 6))),none,0⟩,
⟨none,(.x (.st 3 (.t 4) (.t 13))),none,0⟩,
⟨(some 5),(.q (.mv (.t 14))),none,0⟩])
.ret) .skip)))
(.seq (.reg [⟨(some 15),(.x (.call (.c (.fn 108 [] [])) [])),none,0⟩,
⟨(some 16),(.x (.call (.c (.fn 107 [] [])) [(.c (.bool false)),(.t 15)])),none,0⟩,
⟨(some 7),(.a (.alloc 46 [(.bool false),.nilsl,.nilsl])),none,0⟩,
⟨none,(.x (.st 3 (.t 7) (.t 16))),none,0⟩])
(.seq (.reg [⟨(some 17),(.q (.ld true 3 (.t 2))),none,0⟩,
⟨(some 18),(.q (.ld true 3 (.t 7))),none,0⟩,
⟨(some 19),(.q (.build [(.bool false),.nilsl,.nilsl,(.bool false),.nilsl,.nilsl] [(0,3,(.t 17)),(3,3,(.t 18))])),none,0⟩,
⟨(some 20),(.q (.ld true 3 (.t 3))),none,0⟩,
⟨(some 21),(.q (.ld true 3 (.t 7))),none,0⟩,
⟨(some 22),(.q (.build [(.bool false),.nilsl,.nilsl,(.bool false),.nilsl,.nilsl] [(0,3,(.t 20)),(3,3,(.t 21))])),none,0⟩,
⟨(some 23),(.a (.bslice 158 6 2 [(.bool false),.nilsl,.nilsl,(.bool false),.nilsl,.nilsl] [(0,(.t 19)),(1,(.t 22))])),none,0⟩,
⟨(some 24),(.x (.call (.c (.fn 105 [] [])) [(.t 23)])),none,0⟩,
⟨(some 25),(.q (.extract (.t 24) 0)),none,0⟩,
⟨(some 26),(.q (.extract (.t 24) 1)),none,0⟩,
⟨none,(.x (.st 3 (.t 4) (.t 25))),none,0⟩,
⟨(some 5),(.q (.mv (.t 26))),none,0⟩])
.ret))))⟩
theorem row86 : Row Tryz.prog (86, a86) := ⟨Tryz.f86, Tryz.func86, by kernel_rfl⟩
noncomputable def a90 : AFn :=
⟨44,[],(.seq (.reg [⟨(some 10),(.q (.ld false 1 (.t 1))),none,0⟩,
⟨(some 5),(.q (.mv (.t 10))),none,0⟩,
⟨(some 6),(.q (.mv (.c (.int .i64 (.ofNat 0))))),none,0⟩])
(.block 0 (.loop (.seq (.seq (.reg [⟨(some 11),(.q (.mv (.t 0))),none,0⟩,
⟨(some 12),(.q (.mv (.t 6))),none,0⟩,
⟨(some 13),(.x (.call (.t 11) [(.t 12)])),none,0⟩])
(.cond (.t 13) .skip (.exit 0)))
(.block 1 (.seq (.reg [⟨(some 14),(.q (.faddr 1 (.t 2))),none,0⟩,
⟨(some 15),(.q (.ld false 1 (.t 14))),none,0⟩,
⟨(some 16),(.q (.mv (.t 6))),none,0⟩,
⟨(some 17),(.q (.iaddr (.slice 6) (.t 15) (.t 16))),none,0⟩,
⟨(some 18),(.q (.ld true 6 (.t 17))),none,0⟩,
⟨(some 7),(.a (.alloc 73 [(.int .i64 (.ofNat 0)),(.int .i64 (.ofNat 0)),(.int .i64 (.ofNat 0)),.nilsl,.nilsl,.nilsl])),none,0⟩,
⟨none,(.x (.st 6 (.t 7) (.t 18))),none,0⟩])
(.seq (.seq (.reg [⟨(some 19),(.q (.faddr 0 (.t 7))),none,0⟩,
⟨(some 20),(.q (.ld false 1 (.t 19))),none,0⟩,
⟨(some 21),(.q (.bin .eql (.p .int) (.t 20) (.c (.int .i64 (.ofNat 3))))),none,0⟩])
(.cond (.t 21) .ret .skip))
(.seq (.reg [⟨(some 22),(.q (.ld true 6 (.t 7))),none,0⟩,
⟨(some 23),(.q (.ld false 1 (.t 3))),none,0⟩,
⟨(some 24),(.x (.call (.c (.fn 76 [] [])) [(.t 22),(.t 23)])),none,0⟩,
⟨(some 8),(.q (.mv (.t 24))),none,0⟩])
(.seq (.reg [⟨(some 25),(.q (.mv (.t 8))),none,0⟩,
⟨(some 26),(.q (.ld true 6 (.t 7))),none,0⟩,
⟨(some 27),(.x (.inv [(65,172,none),(100,174,none),(102,52,none)] (.t 25) [(.t 26)])),none,0⟩,
⟨(some 9),(.q (.mv (.t 27))),none,0⟩])
(.seq (.drw [⟨(some 28),(.q (.faddr 3 (.t 7))),none,0⟩,
⟨(some 29),(.q (.ld false 1 (.t 28))),none,1⟩,
⟨(some 30),(.q (.mv (.t 8))),none,0⟩,
⟨(some 31),(.q (.ld true 6 (.t 7))),none,0⟩,
⟨(some 32),(.q (.mv (.t 5))),none,0⟩,
⟨(some 33),(.q (.mv (.t 9))),none,0⟩,
⟨(some 34),(.q (.bin .rem (.p .int) (.t 32) (.t 33))),none,48⟩,
⟨(some 35),(.q (.mkMeth "parlour/deal.choose" [(65,171,none),(100,173,none),(102,176,none)] (.t 30))),none,4⟩,
⟨(some 36),(.q (.nilchk (.t 35))),none,132⟩,
⟨(some 37),(.q (.mv (.t 30))),none,388⟩,
⟨(some 38),(.x (.inv [(65,171,none),(100,173,none),(102,176,none)] (.t 37) [(.t 31),(.t 34)])),none,1020⟩,
⟨(some 39),(.q (.iaddr (.slice 1) (.t 29) (.t 38))),none,2047⟩,
⟨(some 40),(.q (.ld false 1 (.t 39))),none,4095⟩,
⟨(some 6),(.q (.mv (.t 40))),none,8191⟩])
(.reg [⟨(some 41),(.q (.mv (.t 5))),none,0⟩,
⟨(some 42),(.q (.mv (.t 9))),none,0⟩,
⟨(some 43),(.q (.bin .quo (.p .int) (.t 41) (.t 42))),none,0⟩,
⟨(some 5),(.q (.mv (.t 43))),none,0⟩])))))))))))⟩
theorem row90 : Row Tryz.prog (90, a90) := ⟨Tryz.f90, Tryz.func90, by kernel_rfl⟩
noncomputable def a91 : AFn :=
⟨22,[(.t 4)],(.seq (.reg [⟨(some 3),(.a (.box 73 (.t 1))),none,0⟩,
⟨(some 4),(.q (.mv (.c (.int .i64 (.ofNat 0))))),none,0⟩])
(.seq (.reg [⟨(some 6),(.q (.build [.nilfn,.nilfn,.nilfn,.nilfn] [(1,1,(.c (.fn 110 [] []))),(2,1,(.c (.fn 111 [] []))),(3,1,(.c (.fn 112 [] [])))])),none,0⟩,
⟨(some 5),(.a (.alloc 163 [.nilfn,.nilfn,.nilfn,.nilfn])),none,0⟩,
⟨none,(.x (.st 4 (.t 5) (.t 6))),none,0⟩])
(.seq (.seq (.reg [⟨(some 7),(.q (.faddr 0 (.t 3))),none,0⟩,
⟨(some 8),(.q (.ld false 1 (.t 7))),none,0⟩,
⟨(some 9),(.q (.bin .lss (.p .int) (.t 8) (.c (.int .i64 (.ofNat 1))))),none,0⟩,
⟨(some 10),(.q (.mv (.t 9))),none,0⟩,
⟨(some 11),(.q (.faddr 0 (.t 3))),(some (10,false)),0⟩,
⟨(some 12),(.q (.ld false 1 (.t 11))),(some (10,false)),0⟩,
⟨(some 13),(.q (.bin .gtr (.p .int) (.t 12) (.c (.int .i64 (.ofNat 3))))),(some (10,false)),0⟩,
⟨(some 14),(.q (.pick (.t 10) (.c (.bool true)) (.t 13))),none,0⟩])
(.cond (.t 14) (.seq (.reg [⟨(some 4),(.q (.mv (.c (.int .i64 (.ofNat 3))))),none,0⟩])
.ret) .skip))
(.seq (.drw [⟨(some 15),(.q (.faddr 0 (.t 3))),none,0⟩,
⟨(some 16),(.q (.ld false 1 (.t 15))),none,1⟩,
⟨(some 17),(.q (.iaddr (.arr 4 1) (.t 5) (.t 16))),none,3⟩,
⟨(some 18),(.q (.ld false 1 (.t 17))),none,7⟩,
⟨(some 19),(.q (.mv (.t 0))),none,0⟩,
⟨(some 20),(.q (.ld true 6 (.t 3))),none,0⟩,
⟨(some 21),(.x (.call (.t 18) [(.t 19),(.t 20)])),none,63⟩,
⟨(some 4),(.q (.mv (.t 21))),none,127⟩])
.ret))))⟩
theorem row91 : Row Tryz.prog (91, a91) := ⟨Tryz.f91, Tryz.func91, by kernel_rfl⟩
noncomputable def a92 : AFn :=
⟨92,[(.t 8),(.t 9)],(.seq (.reg [⟨(some 8),(.q (.mv (.c .nilsl))),none,0⟩,
⟨(some 9),(.q (.mv (.c (.bool false)))),none,0⟩])
(.seq (.seq (.reg [⟨(some 15),(.q (.mv (.t 3))),none,0⟩,
⟨(some 16),(.q (.lenSl (.t 15))),none,0⟩,
⟨(some 17),(.q (.bin .eql (.p .int) (.t 16) (.c (.int .i64 (.ofNat 0))))),none,0⟩])
(.cond (.t 17) (.seq (.reg [⟨(some 8),(.q (.mv (.c .nilsl))),none,0⟩,
⟨(some 9),(.q (.mv (.c (.bool false)))),none,0⟩])
.ret) .skip))
(.seq (.reg [⟨(some 18),(.q (.mv (.t 0))),none,0⟩,
⟨(some 19),(.q (.nilchk (.t 18))),none,0⟩,
⟨(some 20),(.q (.faddr 0 (.t 19))),none,0⟩,
⟨(some 21),(.q (.faddr 1 (.t 20))),none,0⟩,
⟨(some 22),(.q (.ld false 1 (.t 21))),none,0⟩,
⟨(some 23),(.q (.lenSl (.t 22))),none,0⟩,
⟨(some 24),(.q (.mv (.t 3))),none,0⟩,
⟨(some 25),(.q (.lenSl (.t 24))),none,0⟩,
⟨(some 26),(.q (.bin .sub (.p .int) (.t 23) (.t 25))),none,0⟩,
⟨(some 10),(.q (.mv (.t 26))),none,0⟩])
(.seq (.drw [⟨(some 27),(.q (.mv (.t 0))),none,0⟩,
⟨(some 28),(.q (.nilchk (.t 27))),none,1⟩,
⟨(some 29),(.q (.faddr 3 (.t 28))),none,3⟩,
⟨(some 30),(.q (.ld false 1 (.t 29))),none,7⟩,
⟨(some 31),(.q (.mv (.t 10))),none,0⟩,
⟨(some 32),(.q (.mv (.t 0))),none,0⟩,
⟨(some 33),(.q (.nilchk (.t 32))),none,32⟩,
⟨(some 34),(.q (.faddr 4 (.t 33))),none,96⟩,
⟨(some 35),(.q (.ld false 1 (.t 34))),none,224⟩,
⟨(some 36),(.q (.mv (.t 10))),none,0⟩,
⟨(some 37),(.q (.mv (.t 1))),none,0⟩,
⟨(some 38),(.q (.mv (.t 2))),none,0⟩,
⟨(some 39),(.q (.iaddr (.slice 1) (.t 30) (.t 31))),none,1535⟩,
⟨none,(.x (.st 1 (.t 39) (.t 37))),none,5631⟩,
⟨(some 40),(.q (.iaddr (.slice 1) (.t 35) (.t 36))),none,16383⟩,
⟨none,(.x (.st 1 (.t 40) (.t 38))),none,32767⟩])
(.seq (.reg [⟨(some 41),(.q (.mv (.t 3))),none,0⟩,
⟨(some 42),(.q (.slc (.slice 6) (.t 41) (some (.c (.int .i64 (.ofNat 1)))) none none)),none,0⟩,
⟨(some 11),(.q (.mv (.t 42))),none,0⟩,
⟨(some 12),(.q (.mv (.c (.bool true)))),none,0⟩])
(.seq (.seq (.reg [⟨(some 43),(.q (.mv (.t 3))),none,0⟩,
⟨(some 44),(.q (.iaddr (.slice 6) (.t 43) (.c (.int .i64 (.ofNat 0))))),none,0⟩,
⟨(some 45),(.q (.faddr 3 (.t 44))),none,0⟩,
⟨(some 46),(.q (.ld false 1 (.t 45))),none,0⟩,
⟨(some 47),(.q (.lenSl (.t 46))),none,0⟩,
⟨(some 48),(.q (.mv (.c (.int .i64 (.ofNat 0))))),none,0⟩])
(.block 0 (.loop (.seq (.reg [⟨(some 49),(.q (.bin .lss (.p .int) (.t 48) (.t 47))),none,0⟩])
(.seq (.cond (.t 49) .skip (.exit 0))
(.seq (.block 1 (.seq (.reg [⟨(some 50),(.q (.iaddr (.slice 1) (.t 46) (.t 48))),none,0⟩,
⟨(some 51),(.q (.ld false 1 (.t 50))),none,0⟩,
⟨(some 14),(.q (.mv (.t 51))),none,0⟩])
(.seq (.seq (.reg [⟨(some 52),(.q (.mv (.t 14))),none,0⟩,
⟨(some 53),(.q (.mv (.t 0))),none,0⟩,
⟨(some 54),(.q (.nilchk (.t 53))),none,0⟩,
⟨(some 55),(.q (.faddr 0 (.t 54))),none,0⟩,
⟨(some 56),(.q (.faddr 1 (.t 55))),none,0⟩,
⟨(some 57),(.q (.ld false 1 (.t 56))),none,0⟩,
⟨(some 58),(.q (.lenSl (.t 57))),none,0⟩,
⟨(some 59),(.q (.mv (.t 11))),none,0⟩,
⟨(some 60),(.q (.lenSl (.t 59))),none,0⟩,
⟨(some 61),(.q (.bin .sub (.p .int) (.t 58) (.t 60))),none,0⟩,
⟨(some 62),(.q (.bin .neq (.p .int) (.t 52) (.t 61))),none,0⟩])
(.cond (.t 62) (.seq (.reg [⟨(some 8),(.q (.mv (.c .nilsl))),none,0⟩,
⟨(some 9),(.q (.mv (.c (.bool false)))),none,0⟩])
.ret) .skip))
(.seq (.reg [⟨(some 64),(.q (.mv (.t 0))),none,0⟩,
⟨(some 65),(.q (.mv (.t 10))),none,0⟩,
⟨(some 66),(.q (.mv (.t 2))),none,0⟩,
⟨(some 67),(.q (.bin .add (.p .int) (.t 66) (.c (.int .i64 (.ofNat 1))))),none,0⟩,
⟨(some 68),(.q (.mv (.t 11))),none,0⟩,
⟨(some 69),(.x (.call (.c (.fn 92 [] [])) [(.t 64),(.t 65),(.t 67),(.t 68)])),none,0⟩,
⟨(some 63),(.q (.mv (.t 69))),none,0⟩,
⟨(some 70),(.q (.extract (.t 63) 0)),none,0⟩,
⟨(some 71),(.q (.extract (.t 63) 1)),none,0⟩,
⟨(some 11),(.q (.mv (.t 70))),none,0⟩,
⟨(some 12),(.q (.mv (.t 71))),none,0⟩])
(.seq (.reg [⟨(some 72),(.q (.mv (.t 12))),none,0⟩,
⟨(some 73),(.q (.un .not (.t 72))),none,0⟩])
(.cond (.t 73) (.seq (.reg [⟨(some 8),(.q (.mv (.c .nilsl))),none,0⟩,
⟨(some 9),(.q (.mv (.c (.bool false)))),none,0⟩])
.ret) .skip))))))
(.reg [⟨(some 74),(.q (.bin .add (.p .int) (.t 48) (.c (.int .i64 (.ofNat 1))))),none,0⟩,
⟨(some 48),(.q (.mv (.t 74))),none,0⟩])))))))
(.seq (.drw [⟨(some 75),(.q (.mv (.t 0))),none,0⟩,
⟨(some 76),(.q (.nilchk (.t 75))),none,1⟩,
⟨(some 77),(.q (.faddr 5 (.t 76))),none,3⟩,
⟨(some 78),(.q (.ld false 1 (.t 77))),none,7⟩,
⟨(some 79),(.q (.mv (.t 10))),none,0⟩,
⟨(some 80),(.q (.mv (.t 0))),none,0⟩,
⟨(some 81),(.q (.nilchk (.t 80))),none,32⟩,
⟨(some 82),(.q (.faddr 0 (.t 81))),none,96⟩,
⟨(some 83),(.q (.faddr 1 (.t 82))),none,224⟩,
⟨(some 84),(.q (.ld false 1 (.t 83))),none,480⟩,
⟨(some 85),(.q (.lenSl (.t 84))),none,992⟩,
⟨(some 86),(.q (.mv (.t 11))),none,0⟩,
⟨(some 87),(.q (.lenSl (.t 86))),none,2048⟩,
⟨(some 88),(.q (.bin .sub (.p .int) (.t 85) (.t 87))),none,8160⟩,
⟨(some 89),(.q (.bin .sub (.p .int) (.t 88) (.c (.int .i64 (.ofNat 1))))),none,16352⟩,
⟨(some 90),(.q (.iaddr (.slice 1) (.t 78) (.t 79))),none,32767⟩,
⟨none,(.x (.st 1 (.t 90) (.t 89))),none,65535⟩])
(.seq (.reg [⟨(some 91),(.q (.mv (.t 11))),none,0⟩,
⟨(some 8),(.q (.mv (.t 91))),none,0⟩,
⟨(some 9),(.q (.mv (.c (.bool true)))),none,0⟩])
.ret))))))))⟩
theorem row92 : Row Tryz.prog (92, a92) := ⟨Tryz.f92, Tryz.func92, by kernel_rfl⟩
noncomputable def a93 : AFn :=
⟨25,[(.t 2)],(.seq (.reg [⟨(some 2),(.q (.mv (.c (.int .i64 (.ofNat 0))))),none,0⟩])
(.seq (.seq (.reg [⟨(some 5),(.q (.mv (.t 0))),none,0⟩,
⟨(some 6),(.q (.lenSl (.t 5))),none,0⟩,
⟨(some 7),(.q (.bin .lss (.p .int) (.t 6) (.c (.int .i64 (.ofNat 1))))),none,0⟩])
(.cond (.t 7) (.reg [⟨(some 8),(.q (.mkIface 9 (.c (.str [115,108,105,99,101,115,46,77,97,120,58,32,101,109,112,116,121,32,108,105,115,116])))),none,0⟩,
⟨none,(.x (.bad)),none,0⟩]) .skip))
(.seq (.reg [⟨(some 9),(.q (.mv (.t 0))),none,0⟩,
⟨(some 10),(.q (.iaddr (.slice 1) (.t 9) (.c (.int .i64 (.ofNat 0))))),none,0⟩,
⟨(some 11),(.q (.ld false 1 (.t 10))),none,0⟩,
⟨(some 3),(.q (.mv (.t 11))),none,0⟩])
(.seq (.seq (.reg [⟨(some 4),(.q (.mv (.c (.int .i64 (.ofNat 1))))),none,0⟩])
(.block 0 (.loop (.seq (.seq (.reg [⟨(some 12),(.q (.mv (.t 4))),none,0⟩,
⟨(some 13),(.q (.mv (.t 0))),none,0⟩,
⟨(some 14),(.q (.lenSl (.t 13))),none,0⟩,
⟨(some 15),(.q (.bin .lss (.p .int) (.t 12) (.t 14))),none,0⟩])
(.cond (.t 15) .skip (.exit 0)))
(.seq (.block 1 (.reg [⟨(some 18),(.q (.mv (.t 3))),none,0⟩,
⟨(some 19),(.q (.mv (.t 0))),none,0⟩,
⟨(some 20),(.q (.mv (.t 4))),none,0⟩,
⟨(some 21),(.q (.iaddr (.slice 1) (.t 19) (.t 20))),none,0⟩,
⟨(some 22),(.q (.ld false 1 (.t 21))),none,0⟩,
⟨(some 23),(.q (.minmax true [(.t 18),(.t 22)])),none,0⟩,
⟨(some 3),(.q (.mv (.t 23))),none,0⟩]))
(.reg [⟨(some 16),(.q (.mv (.t 4))),none,0⟩,
⟨(some 17),(.q (.bin .add (.p .int) (.t 16) (.c (.int .i64 (.ofNat 1))))),none,0⟩,
⟨(some 4),(.q (.mv (.t 17))),none,0⟩]))))))
(.seq (.reg [⟨(some 24),(.q (.mv (.t 3))),none,0⟩,
⟨(some 2),(.q (.mv (.t 24))),none,0⟩])
.ret)))))⟩
theorem row93 : Row Tryz.prog (93, a93) := ⟨Tryz.f93, Tryz.func93, by kernel_rfl⟩
noncomputable def a94 : AFn :=
⟨80,[(.t 2)],(.seq (.reg [⟨(some 2),(.q (.mv (.c (.int .i64 (.ofNat 0))))),none,0⟩])
(.seq (.reg [⟨(some 8),(.q (.mv (.t 0))),none,0⟩,
⟨(some 9),(.q (.nilchk (.t 8))),none,0⟩,
⟨(some 10),(.q (.faddr 0 (.t 9))),none,0⟩,
⟨(some 11),(.q (.faddr 2 (.t 10))),none,0⟩,
⟨(some 12),(.q (.ld false 1 (.t 11))),none,0⟩,
⟨(some 13),(.q (.lenSl (.t 12))),none,0⟩,
⟨(some 14),(.a (.mkSlice 3 1 8 [(.int .i64 (.ofNat 0))] (.t 13) (.t 13))),none,0⟩,
⟨(some 3),(.q (.mv (.t 14))),none,0⟩])
(.seq (.seq (.reg [⟨(some 15),(.q (.mv (.t 0))),none,0⟩,
⟨(some 16),(.q (.nilchk (.t 15))),none,0⟩,
⟨(some 17),(.q (.faddr 0 (.t 16))),none,0⟩,
⟨(some 18),(.q (.faddr 1 (.t 17))),none,0⟩,
⟨(some 19),(.q (.ld false 1 (.t 18))),none,0⟩,
⟨(some 20),(.q (.lenSl (.t 19))),none,0⟩,
⟨(some 21),(.q (.bin .sub (.p .int) (.t 20) (.c (.int .i64 (.ofNat 1))))),none,0⟩,
⟨(some 4),(.q (.mv (.t 21))),none,0⟩])
(.block 0 (.loop (.seq (.seq (.reg [⟨(some 22),(.q (.mv (.t 4))),none,0⟩,
⟨(some 23),(.q (.bin .geq (.p .int) (.t 22) (.c (.int .i64 (.ofNat 0))))),none,0⟩])
(.cond (.t 23) .skip (.exit 0)))
(.seq (.block 1 (.seq (.reg [⟨(some 26),(.q (.mv (.t 0))),none,0⟩,
⟨(some 27),(.q (.nilchk (.t 26))),none,0⟩,
⟨(some 28),(.q (.faddr 0 (.t 27))),none,0⟩,
⟨(some 29),(.q (.faddr 1 (.t 28))),none,0⟩,
⟨(some 30),(.q (.ld false 1 (.t 29))),none,0⟩,
⟨(some 31),(.q (.mv (.t 4))),none,0⟩,
⟨(some 32),(.q (.iaddr (.slice 6) (.t 30) (.t 31))),none,0⟩,
⟨(some 33),(.q (.ld true 6 (.t 32))),none,0⟩,
⟨(some 5),(.a (.alloc 73 [(.int .i64 (.ofNat 0)),(.int .i64 (.ofNat 0)),(.int .i64 (.ofNat 0)),.nilsl,.nilsl,.nilsl])),none,0⟩,
⟨none,(.x (.st 6 (.t 5) (.t 33))),none,0⟩])
(.seq (.reg [⟨(some 34),(.q (.faddr 0 (.t 5))),none,0⟩,
⟨(some 35),(.q (.ld false 1 (.t 34))),none,0⟩,
⟨(some 36),(.q (.bin .eql (.p .int) (.t 35) (.c (.int .i64 (.ofNat 2))))),none,0⟩])
(.cond (.t 36) (.reg [⟨(some 37),(.q (.mv (.t 3))),none,0⟩,
⟨(some 38),(.q (.faddr 2 (.t 5))),none,0⟩,
⟨(some 39),(.q (.ld false 1 (.t 38))),none,0⟩,
⟨(some 40),(.q (.mv (.t 4))),none,0⟩,
⟨(some 41),(.q (.bin .add (.p .int) (.t 40) (.c (.int .i64 (.ofNat 1))))),none,0⟩,
⟨(some 42),(.q (.iaddr (.slice 1) (.t 37) (.t 39))),none,0⟩,
⟨none,(.x (.st 1 (.t 42) (.t 41))),none,0⟩]) .skip))))
(.reg [⟨(some 24),(.q (.mv (.t 4))),none,0⟩,
⟨(some 25),(.q (.bin .sub (.p .int) (.t 24) (.c (.int .i64 (.ofNat 1))))),none,0⟩,
⟨(some 4),(.q (.mv (.t 25))),none,0⟩]))))))
(.seq (.seq (.reg [⟨(some 43),(.q (.mv (.t 0))),none,0⟩,
⟨(some 44),(.q (.nilchk (.t 43))),none,0⟩,
⟨(some 45),(.q (.faddr 0 (.t 44))),none,0⟩,
⟨(some 46),(.q (.faddr 1 (.t 45))),none,0⟩,
⟨(some 47),(.q (.ld false 1 (.t 46))),none,0⟩,
⟨(some 48),(.q (.lenSl (.t 47))),none,0⟩,
⟨(some 49),(.q (.mv (.c (.int .i64 (.ofNat 0))))),none,0⟩])
(.block 2 (.loop (.seq (.reg [⟨(some 50),(.q (.bin .lss (.p .int) (.t 49) (.t 48))),none,0⟩])
(.seq (.cond (.t 50) .skip (.exit 2))
(.seq (.block 3 (.seq (.reg [⟨(some 51),(.q (.iaddr (.slice 6) (.t 47) (.t 49))),none,0⟩,
⟨(some 52),(.q (.ld true 6 (.t 51))),none,0⟩,
⟨(some 7),(.a (.alloc 73 [(.int .i64 (.ofNat 0)),(.int .i64 (.ofNat 0)),(.int .i64 (.ofNat 0)),.nilsl,.nilsl,.nilsl])),none,0⟩,
⟨none,(.x (.st 6 (.t 7) (.t 52))),none,0⟩])
(.seq (.drw [⟨(some 53),(.q (.faddr 0 (.t 7))),none,0⟩,
⟨(some 54),(.q (.ld false 1 (.t 53))),none,1⟩,
⟨(some 55),(.q (.bin .eql (.p .int) (.t 54) (.c (.int .i64 (.ofNat 2))))),none,3⟩,
⟨(some 56),(.q (.mv (.t 55))),none,7⟩,
⟨(some 57),(.q (.mv (.t 0))),(some (56,true)),15⟩,
⟨(some 58),(.q (.nilchk (.t 57))),(some (56,true)),31⟩,
⟨(some 59),(.q (.faddr 0 (.t 58))),(some (56,true)),63⟩,
⟨(some 60),(.q (.faddr 2 (.t 59))),(some (56,true)),127⟩,
⟨(some 61),(.q (.ld false 1 (.t 60))),(some (56,true)),255⟩,
⟨(some 62),(.q (.faddr 2 (.t 7))),(some (56,true)),15⟩,
⟨(some 63),(.q (.ld false 1 (.t 62))),(some (56,true)),527⟩,
⟨(some 64),(.q (.iaddr (.slice 2) (.t 61) (.t 63))),(some (56,true)),2047⟩,
⟨(some 65),(.q (.ld true 2 (.t 64))),(some (56,true)),4095⟩,
⟨(some 66),(.q (.faddr 1 (.t 7))),(some (56,true)),15⟩,
⟨(some 67),(.q (.ld false 1 (.t 66))),(some (56,true)),8207⟩,
⟨(some 68),(.q (.faddr 3 (.t 7))),(some (56,true)),15⟩,
⟨(some 69),(.q (.ld false 1 (.t 68))),(some (56,true)),32783⟩,
⟨(some 70),(.q (.lenSl (.t 69))),(some (56,true)),98319⟩,
⟨(some 71),(.q (.build [(.int .i64 (.ofNat 0)),(.int .i64 (.ofNat 0))] [(0,1,(.t 67)),(1,1,(.t 70))])),(some (56,true)),253967⟩,
⟨(some 72),(.q (.bin .neq (.struct [(0,.int),(1,.int)]) (.t 65) (.t 71))),(some (56,true)),524287⟩,
⟨(some 73),(.q (.pick (.t 56) (.t 72) (.c (.bool false)))),none,1048575⟩])
(.cond (.t 73) (.seq (.reg [⟨(some 2),(.q (.mv (.c (.int .i64 (.ofNat 10))))),none,0⟩])
.ret) .skip))))
(.reg [⟨(some 74),(.q (.bin .add (.p .int) (.t 49) (.c (.int .i64 (.ofNat 1))))),none,0⟩,
⟨(some 49),(.q (.mv (.t 74))),none,0⟩])))))))
(.seq (.seq (.reg [⟨(some 75),(.q (.mv (.t 3))),none,0⟩,
⟨(some 76),(.x (.call (.c (.fn 113 [] [])) [(.t 75),(.c (.int .i64 (.ofNat 0)))])),none,0⟩])
(.cond (.t 76) (.seq (.reg [⟨(some 2),(.q (.mv (.c (.int .i64 (.ofNat 18))))),none,0⟩])
.ret) .skip))
(.seq (.seq (.reg [⟨(some 77),(.q (.mv (.t 3))),none,0⟩,
⟨(some 78),(.x (.call (.c (.fn 114 [] [])) [(.t 77)])),none,0⟩,
⟨(some 79),(.q (.un .not (.t 78))),none,0⟩])
(.cond (.t 79) (.seq (.reg [⟨(some 2),(.q (.mv (.c (.int .i64 (.ofNat 9))))),none,0⟩])
.ret) .skip))
(.seq (.reg [⟨(some 2),(.q (.mv (.c (.int .i64 (.ofNat 0))))),none,0⟩])
.ret)))))))⟩
theorem row94 : Row Tryz.prog (94, a94) := ⟨Tryz.f94, Tryz.func94, by kernel_rfl⟩
noncomputable def a95 : AFn :=
⟨4,[(.t 2)],(.seq (.reg [⟨(some 1),(.a (.box 59 (.t 0))),none,0⟩,
⟨(some 2),(.q (.mv (.c .nilfn))),none,0⟩])
(.seq (.reg [⟨(some 3),(.q (.mkFunc 115 [] [(.t 1)])),none,0⟩,
⟨(some 2),(.q (.mv (.t 3))),none,0⟩])
.ret))⟩
theorem row95 : Row Tryz.prog (95, a95) := ⟨Tryz.f95, Tryz.func95, by kernel_rfl⟩
noncomputable def a97 : AFn :=
⟨3,[(.cell 0 true 3)],(.seq (.reg [⟨(some 0),(.a (.alloc 46 [(.bool false),.nilsl,.nilsl])),none,0⟩])
(.seq (.reg [⟨(some 1),(.x (.call (.c (.fn 108 [] [])) [])),none,0⟩,
⟨(some 2),(.q (.build [(.bool false),.nilsl,.nilsl] [(2,1,(.t 1))])),none,0⟩,
⟨none,(.x (.st 3 (.t 0) (.t 2))),none,0⟩])
.ret))⟩
theorem row97 : Row Tryz.prog (97, a97) := ⟨Tryz.f97, Tryz.func97, by kernel_rfl⟩
noncomputable def a98 : AFn :=
⟨21,[(.cell 6 true 3)],(.seq (.reg [⟨(some 6),(.a (.alloc 46 [(.bool false),.nilsl,.nilsl])),none,0⟩])
(.seq (.reg [⟨(some 8),(.q (.mv (.t 1))),none,0⟩,
⟨(some 9),(.q (.mv (.t 2))),none,0⟩,
⟨(some 10),(.x (.call (.c (.fn 116 [] [])) [(.t 8),(.t 9)])),none,0⟩,
⟨(some 7),(.q (.mv (.t 10))),none,0⟩])
(.seq (.drw [⟨(some 11),(.q (.mv (.t 0))),none,0⟩,
⟨(some 12),(.q (.mv (.t 1))),none,0⟩,
⟨(some 13),(.q (.mv (.t 7))),none,0⟩,
⟨(some 14),(.q (.bin .quo (.p .int) (.t 12) (.t 13))),none,6⟩,
⟨(some 15),(.x (.call (.c (.fn 82 [] [])) [(.t 14)])),none,14⟩,
⟨(some 16),(.q (.mv (.t 2))),none,0⟩,
⟨(some 17),(.q (.mv (.t 7))),none,0⟩,
⟨(some 18),(.q (.bin .quo (.p .int) (.t 16) (.t 17))),none,96⟩,
⟨(some 19),(.x (.call (.c (.fn 82 [] [])) [(.t 18)])),none,254⟩,
⟨(some 20),(.q (.build [(.bool false),.nilsl,.nilsl] [(0,1,(.t 11)),(1,1,(.t 15)),(2,1,(.t 19))])),none,511⟩,
⟨none,(.x (.st 3 (.t 6) (.t 20))),none,1023⟩])
.ret)))⟩
theorem row98 : Row Tryz.prog (98, a98) := ⟨Tryz.f98, Tryz.func98, by kernel_rfl⟩
noncomputable def a99 : AFn :=
⟨21,[(.t 2)],(.seq (.reg [⟨(some 2),(.q (.mv (.c (.int .u64 (.ofNat 0))))),none,0⟩])
(.seq (.reg [⟨(some 3),(.q (.mv (.c (.int .u64 (.ofNat 0))))),none,0⟩])
(.seq (.seq (.reg [⟨(some 5),(.q (.mv (.t 0))),none,0⟩,
⟨(some 6),(.q (.lenSl (.t 5))),none,0⟩,
⟨(some 7),(.q (.bin .sub (.p .int) (.t 6) (.c (.int .i64 (.ofNat 1))))),none,0⟩,
⟨(some 4),(.q (.mv (.t 7))),none,0⟩])
(.block 0 (.loop (.seq (.seq (.reg [⟨(some 8),(.q (.mv (.t 4))),none,0⟩,
⟨(some 9),(.q (.bin .geq (.p .int) (.t 8) (.c (.int .i64 (.ofNat 0))))),none,0⟩])
(.cond (.t 9) .skip (.exit 0)))
(.seq (.block 1 (.reg [⟨(some 12),(.q (.mv (.t 3))),none,0⟩,
⟨(some 13),(.q (.bin .mul (.p .int) (.t 12) (.c (.int .u64 (.ofNat 1000000000))))),none,0⟩,
⟨(some 14),(.q (.mv (.t 0))),none,0⟩,
⟨(some 15),(.q (.mv (.t 4))),none,0⟩,
⟨(some 16),(.q (.iaddr (.slice 1) (.t 14) (.t 15))),none,0⟩,
⟨(some 17),(.q (.ld false 1 (.t 16))),none,0⟩,
⟨(some 18),(.q (.conv (.int .u64) (.t 17))),none,0⟩,
⟨(some 19),(.q (.bin .add (.p .int) (.t 13) (.t 18))),none,0⟩,
⟨(some 3),(.q (.mv (.t 19))),none,0⟩]))
(.reg [⟨(some 10),(.q (.mv (.t 4))),none,0⟩,
⟨(some 11),(.q (.bin .sub (.p .int) (.t 10) (.c (.int .i64 (.ofNat 1))))),none,0⟩,
⟨(some 4),(.q (.mv (.t 11))),none,0⟩]))))))
(.seq (.reg [⟨(some 20),(.q (.mv (.t 3))),none,0⟩,
⟨(some 2),(.q (.mv (.t 20))),none,0⟩])
.ret))))⟩
theorem row99 : Row Tryz.prog (99, a99) := ⟨Tryz.f99, Tryz.func99, by kernel_rfl⟩
noncomputable def a100 : AFn :=
⟨91,[(.t 4)],(.seq (.reg [⟨(some 4),(.q (.mv (.c .nilsl))),none,0⟩])
(.seq (.seq (.reg [⟨(some 13),(.q (.mv (.t 0))),none,0⟩,
⟨(some 14),(.q (.lenSl (.t 13))),none,0⟩,
⟨(some 15),(.q (.bin .leq (.p .int) (.t 14) (.c (.int .i64 (.ofNat 2))))),none,0⟩,
⟨(some 16),(.q (.mv (.t 15))),none,0⟩,
⟨(some 17),(.q (.mv (.t 1))),(some (16,true)),0⟩,
⟨(some 18),(.q (.lenSl (.t 17))),(some (16,true)),0⟩,
⟨(some 19),(.q (.bin .leq (.p .int) (.t 18) (.c (.int .i64 (.ofNat 2))))),(some (16,true)),0⟩,
⟨(some 20),(.q (.pick (.t 16) (.t 19) (.c (.bool false)))),none,0⟩])
(.cond (.t 20) (.seq (.reg [⟨(some 21),(.q (.mv (.t 0))),none,0⟩,
⟨(some 22),(.x (.call (.c (.fn 99 [] [])) [(.t 21)])),none,0⟩,
⟨(some 23),(.q (.mv (.t 1))),none,0⟩,
⟨(some 24),(.x (.call (.c (.fn 99 [] [])) [(.t 23)])),none,0⟩,
⟨(some 25),(.x (.call (.c (.fn 116 [] [])) [(.t 22),(.t 24)])),none,0⟩,
⟨(some 26),(.x (.call (.c (.fn 82 [] [])) [(.t 25)])),none,0⟩,
⟨(some 4),(.q (.mv (.t 26))),none,0⟩])
.ret) .skip))
(.seq (.seq (.reg [⟨(some 27),(.q (.mv (.t 0))),none,0⟩,
⟨(some 28),(.x (.call (.c (.fn 117 [] [])) [(.t 27)])),none,0⟩,
⟨(some 29),(.q (.mv (.t 28))),none,0⟩,
⟨(some 30),(.q (.mv (.t 1))),(some (29,false)),0⟩,
⟨(some 31),(.x (.call (.c (.fn 117 [] [])) [(.t 30)])),(some (29,false)),0⟩,
⟨(some 32),(.q (.pick (.t 29) (.c (.bool true)) (.t 31))),none,0⟩])
(.cond (.t 32) (.seq (.reg [⟨(some 33),(.x (.call (.c (.fn 108 [] [])) [])),none,0⟩,
⟨(some 4),(.q (.mv (.t 33))),none,0⟩])
.ret) .skip))
(.seq (.seq (.reg [⟨(some 34),(.q (.mv (.t 0))),none,0⟩,
⟨(some 35),(.q (.mv (.t 1))),none,0⟩,
⟨(some 36),(.x (.call (.c (.fn 118 [] [])) [(.t 34),(.t 35)])),none,0⟩,
⟨(some 37),(.q (.bin .lss (.p .int) (.t 36) (.c (.int .i64 (.ofNat 0))))),none,0⟩])
(.cond (.t 37) (.reg [⟨(some 38),(.q (.mv (.t 1))),none,0⟩,
⟨(some 39),(.q (.mv (.t 0))),none,0⟩,
⟨(some 0),(.q (.mv (.t 38))),none,0⟩,
⟨(some 1),(.q (.mv (.t 39))),none,0⟩]) .skip))
(.seq (.block 0 (.loop (.seq (.seq (.reg [⟨(some 40),(.q (.mv (.t 1))),none,0⟩,
⟨(some 41),(.q (.lenSl (.t 40))),none,0⟩,
⟨(some 42),(.q (.bin .gtr (.p .int) (.t 41) (.c (.int .i64 (.ofNat 2))))),none,0⟩])
(.cond (.t 42) .skip (.exit 0)))
(.block 1 (.seq (.reg [⟨(some 44),(.q (.mv (.t 0))),none,0⟩,
⟨(some 45),(.q (.mv (.t 1))),none,0⟩,
⟨(some 46),(.x (.call (.c (.fn 120 [] [])) [(.t 44),(.t 45)])),none,0⟩,
⟨(some 47),(.q (.extract (.t 46) 0)),none,0⟩,
⟨(some 48),(.q (.extract (.t 46) 1)),none,0⟩,
⟨(some 49),(.x (.call (.c (.fn 119 [] [])) [(.t 47),(.t 48)])),none,0⟩,
⟨(some 43),(.q (.mv (.t 49))),none,0⟩,
⟨(some 50),(.q (.extract (.t 43) 0)),none,0⟩,
⟨(some 51),(.q (.extract (.t 43) 1)),none,0⟩,
⟨(some 52),(.q (.extract (.t 43) 2)),none,0⟩,
⟨(some 53),(.q (.extract (.t 43) 3)),none,0⟩,
⟨(some 5),(.q (.mv (.t 50))),none,0⟩,
⟨(some 6),(.q (.mv (.t 51))),none,0⟩,
⟨(some 7),(.q (.mv (.t 52))),none,0⟩,
⟨(some 8),(.q (.mv (.t 53))),none,0⟩])
(.seq (.seq (.reg [⟨(some 54),(.q (.mv (.t 6))),none,0⟩,
⟨(some 55),(.q (.bin .eql (.p .int) (.t 54) (.c (.int .i64 (.ofNat 0))))),none,0⟩])
(.cond (.t 55) (.seq (.reg [⟨(some 57),(.q (.mv (.t 0))),none,0⟩,
⟨(some 58),(.q (.mv (.t 1))),none,0⟩,
⟨(some 59),(.x (.call (.c (.fn 121 [] [])) [(.t 57),(.t 58)])),none,0⟩,
⟨(some 56),(.q (.mv (.t 59))),none,0⟩,
⟨(some 60),(.q (.extract (.t 56) 0)),none,0⟩,
⟨(some 61),(.q (.extract (.t 56) 1)),none,0⟩,
⟨(some 9),(.q (.mv (.t 60))),none,0⟩,
⟨(some 10),(.q (.mv (.t 61))),none,0⟩])
(.seq (.reg [⟨(some 62),(.q (.mv (.t 1))),none,0⟩,
⟨(some 63),(.q (.mv (.t 10))),none,0⟩,
⟨(some 0),(.q (.mv (.t 62))),none,0⟩,
⟨(some 1),(.q (.mv (.t 63))),none,0⟩])
(.exit 1))) .skip))
(.reg [⟨(some 64),(.q (.mv (.t 0))),none,0⟩,
⟨(some 65),(.q (.mv (.t 1))),none,0⟩,
⟨(some 66),(.q (.mv (.t 5))),none,0⟩,
⟨(some 67),(.q (.mv (.t 6))),none,0⟩,
⟨(some 68),(.x (.call (.c (.fn 122 [] [])) [(.t 64),(.t 65),(.t 66),(.t 67)])),none,0⟩,
⟨(some 69),(.q (.mv (.t 0))),none,0⟩,
⟨(some 70),(.q (.mv (.t 1))),none,0⟩,
⟨(some 71),(.q (.mv (.t 7))),none,0⟩,
⟨(some 72),(.q (.mv (.t 8))),none,0⟩,
⟨(some 73),(.x (.call (.c (.fn 122 [] [])) [(.t 69),(.t 70),(.t 71),(.t 72)])),none,0⟩,
⟨(some 0),(.q (.mv (.t 68))),none,0⟩,
⟨(some 1),(.q (.mv (.t 73))),none,0⟩])))))))
(.seq (.seq (.reg [⟨(some 74),(.q (.mv (.t 1))),none,0⟩,
⟨(some 75),(.q (.lenSl (.t 74))),none,0⟩,
⟨(some 76),(.q (.bin .eql (.p .int) (.t 75) (.c (.int .i64 (.ofNat 0))))),none,0⟩])
(.cond (.t 76) (.seq (.reg [⟨(some 77),(.q (.mv (.t 0))),none,0⟩,
⟨(some 78),(.x (.call (.c (.fn 101 [] [])) [(.t 77)])),none,0⟩,
⟨(some 4),(.q (.mv (.t 78))),none,0⟩])
.ret) .skip))
(.seq (.reg [⟨(some 80),(.q (.mv (.t 0))),none,0⟩,
⟨(some 81),(.q (.mv (.t 1))),none,0⟩,
⟨(some 82),(.x (.call (.c (.fn 121 [] [])) [(.t 80),(.t 81)])),none,0⟩,
⟨(some 79),(.q (.mv (.t 82))),none,0⟩,
⟨(some 83),(.q (.extract (.t 79) 0)),none,0⟩,
⟨(some 84),(.q (.extract (.t 79) 1)),none,0⟩,
⟨(some 11),(.q (.mv (.t 83))),none,0⟩,
⟨(some 12),(.q (.mv (.t 84))),none,0⟩])
(.seq (.reg [⟨(some 85),(.q (.mv (.t 1))),none,0⟩,
⟨(some 86),(.x (.call (.c (.fn 99 [] [])) [(.t 85)])),none,0⟩,
⟨(some 87),(.q (.mv (.t 12))),none,0⟩,
⟨(some 88),(.x (.call (.c (.fn 99 [] [])) [(.t 87)])),none,0⟩,
⟨(some 89),(.x (.call (.c (.fn 116 [] [])) [(.t 86),(.t 88)])),none,0⟩,
⟨(some 90),(.x (.call (.c (.fn 82 [] [])) [(.t 89)])),none,0⟩,
⟨(some 4),(.q (.mv (.t 90))),none,0⟩])
.ret))))))))⟩
theorem row100 : Row Tryz.prog (100, a100) := ⟨Tryz.f100, Tryz.func100, by kernel_rfl⟩
noncomputable def a101 : AFn :=
⟨5,[(.t 2)],(.seq (.reg [⟨(some 2),(.q (.mv (.c .nilsl))),none,0⟩])
(.seq (.reg [⟨(some 3),(.q (.mv (.t 0))),none,0⟩,
⟨(some 4),(.x (.app 97 1 4 (.c .nilsl) (.t 3))),none,0⟩,
⟨(some 2),(.q (.mv (.t 4))),none,0⟩])
.ret))⟩
theorem row101 : Row Tryz.prog (101, a101) := ⟨Tryz.f101, Tryz.func101, by kernel_rfl⟩
noncomputable def a102 : AFn :=
⟨17,[(.t 4)],(.seq (.reg [⟨(some 4),(.q (.mv (.c .nilsl))),none,0⟩])
(.seq (.seq (.reg [⟨(some 7),(.q (.mv (.t 1))),none,0⟩,
⟨(some 8),(.x (.call (.c (.fn 117 [] [])) [(.t 7)])),none,0⟩])
(.cond (.t 8) (.seq (.reg [⟨(some 9),(.q (.mv (.t 0))),none,0⟩,
⟨(some 4),(.q (.mv (.t 9))),none,0⟩])
.ret) .skip))
(.seq (.reg [⟨(some 11),(.q (.mv (.t 0))),none,0⟩,
⟨(some 12),(.q (.mv (.t 1))),none,0⟩,
⟨(some 13),(.x (.call (.c (.fn 121 [] [])) [(.t 11),(.t 12)])),none,0⟩,
⟨(some 10),(.q (.mv (.t 13))),none,0⟩,
⟨(some 14),(.q (.extract (.t 10) 0)),none,0⟩,
⟨(some 15),(.q (.extract (.t 10) 1)),none,0⟩,
⟨(some 5),(.q (.mv (.t 14))),none,0⟩,
⟨(some 6),(.q (.mv (.t 15))),none,0⟩])
(.seq (.reg [⟨(some 16),(.q (.mv (.t 5))),none,0⟩,
⟨(some 4),(.q (.mv (.t 16))),none,0⟩])
.ret))))⟩
theorem row102 : Row Tryz.prog (102, a102) := ⟨Tryz.f102, Tryz.func102, by kernel_rfl⟩
end Go.Proofs.YtiiplmagnlcpbaaGreatDoor.dealKnown
