/- Functions of the program as data of the evaluator, written by program; each is shown to be the compiler's result on the loaded function. -/
import Derived.Test.YtmbmidkdinllgaaDoorProg
import Derived.Test.YtmbmidkdinllgaaDoorEv8
import Derived.KernelRfl
namespace Go.Ev.Gl
set_option maxRecDepth 100000
noncomputable def a101 : AFn :=
⟨17,[(.cell 2 true 3)],(.seq (.reg [⟨(some 1),(.a (.box 25 (.t 0))),none,0⟩,
⟨(some 2),(.a (.alloc 25 [(.bool false),.nilsl,.nilsl])),none,0⟩])
(.seq (.reg [⟨(some 3),(.q (.faddr 0 (.t 1))),none,0⟩,
⟨(some 4),(.q (.ld false 1 (.t 3))),none,0⟩,
⟨(some 5),(.q (.un .not (.t 4))),none,0⟩,
⟨(some 6),(.q (.mv (.t 5))),none,0⟩,
⟨(some 7),(.q (.faddr 1 (.t 1))),(some (6,true)),0⟩,
⟨(some 8),(.q (.ld false 1 (.t 7))),(some (6,true)),0⟩,
⟨(some 9),(.q (.lenSl (.t 8))),(some (6,true)),0⟩,
⟨(some 10),(.q (.bin .gtr (.p .int) (.t 9) (.c (.int .i64 (.ofNat 0))))),(some (6,true)),0⟩,
⟨(some 11),(.q (.pick (.t 6) (.t 10) (.c (.bool false)))),none,0⟩,
⟨(some 12),(.q (.faddr 1 (.t 1))),none,0⟩,
⟨(some 13),(.q (.ld false 1 (.t 12))),none,0⟩,
⟨(some 14),(.q (.faddr 2 (.t 1))),none,0⟩,
⟨(some 15),(.q (.ld false 1 (.t 14))),none,0⟩,
⟨(some 16),(.q (.build [(.bool false),.nilsl,.nilsl] [(0,1,(.t 11)),(1,1,(.t 13)),(2,1,(.t 15))])),none,0⟩,
⟨none,(.x (.st 3 (.t 2) (.t 16))),none,0⟩])
.ret))⟩
theorem row101 : Row Go.Proofs.Tryd.prog (101, a101) := ⟨Go.Proofs.Tryd.f101, Go.Proofs.Tryd.func101, by kernel_rfl⟩
noncomputable def a103 : AFn :=
⟨21,[(.t 2)],(.seq (.reg [⟨(some 2),(.q (.mv (.c .nilsl))),none,0⟩])
(.seq (.block 0 (.loop (.seq (.seq (.reg [⟨(some 3),(.q (.mv (.t 0))),none,0⟩,
⟨(some 4),(.q (.lenSl (.t 3))),none,0⟩,
⟨(some 5),(.q (.bin .gtr (.p .int) (.t 4) (.c (.int .i64 (.ofNat 0))))),none,0⟩,
⟨(some 6),(.q (.mv (.t 5))),none,0⟩,
⟨(some 7),(.q (.mv (.t 0))),(some (6,true)),0⟩,
⟨(some 8),(.q (.mv (.t 0))),(some (6,true)),0⟩,
⟨(some 9),(.q (.lenSl (.t 8))),(some (6,true)),0⟩,
⟨(some 10),(.q (.bin .sub (.p .int) (.t 9) (.c (.int .i64 (.ofNat 1))))),(some (6,true)),0⟩,
⟨(some 11),(.q (.iaddr (.slice 1) (.t 7) (.t 10))),(some (6,true)),0⟩,
⟨(some 12),(.q (.ld false 1 (.t 11))),(some (6,true)),0⟩,
⟨(some 13),(.q (.bin .eql (.p .int) (.t 12) (.c (.int .u32 (.ofNat 0))))),(some (6,true)),0⟩,
⟨(some 14),(.q (.pick (.t 6) (.t 13) (.c (.bool false)))),none,0⟩])
(.cond (.t 14) .skip (.exit 0)))
(.block 1 (.reg [⟨(some 15),(.q (.mv (.t 0))),none,0⟩,
⟨(some 16),(.q (.mv (.t 0))),none,0⟩,
⟨(some 17),(.q (.lenSl (.t 16))),none,0⟩,
⟨(some 18),(.q (.bin .sub (.p .int) (.t 17) (.c (.int .i64 (.ofNat 1))))),none,0⟩,
⟨(some 19),(.q (.slc (.slice 1) (.t 15) none (some (.t 18)) none)),none,0⟩,
⟨(some 0),(.q (.mv (.t 19))),none,0⟩])))))
(.seq (.reg [⟨(some 20),(.q (.mv (.t 0))),none,0⟩,
⟨(some 2),(.q (.mv (.t 20))),none,0⟩])
.ret)))⟩
theorem row103 : Row Go.Proofs.Tryd.prog (103, a103) := ⟨Go.Proofs.Tryd.f103, Go.Proofs.Tryd.func103, by kernel_rfl⟩
noncomputable def a104 : AFn :=
⟨26,[(.cell 2 true 3)],(.seq (.reg [⟨(some 1),(.a (.box 80 (.t 0))),none,0⟩,
⟨(some 2),(.a (.alloc 25 [(.bool false),.nilsl,.nilsl])),none,0⟩])
(.seq (.seq (.reg [⟨(some 3),(.q (.faddr 3 (.t 1))),none,0⟩,
⟨(some 4),(.q (.faddr 1 (.t 3))),none,0⟩,
⟨(some 5),(.q (.ld false 1 (.t 4))),none,0⟩,
⟨(some 6),(.x (.call (.c (.fn 91 [] [])) [(.t 5)])),none,0⟩,
⟨(some 7),(.q (.mv (.t 6))),none,0⟩,
⟨(some 8),(.q (.faddr 3 (.t 1))),(some (7,true)),0⟩,
⟨(some 9),(.q (.faddr 2 (.t 8))),(some (7,true)),0⟩,
⟨(some 10),(.q (.ld false 1 (.t 9))),(some (7,true)),0⟩,
⟨(some 11),(.x (.call (.c (.fn 91 [] [])) [(.t 10)])),(some (7,true)),0⟩,
⟨(some 12),(.q (.pick (.t 7) (.t 11) (.c (.bool false)))),none,0⟩,
⟨(some 13),(.q (.mv (.t 12))),none,0⟩,
⟨(some 14),(.q (.faddr 3 (.t 1))),(some (13,true)),0⟩,
⟨(some 15),(.q (.faddr 0 (.t 14))),(some (13,true)),0⟩,
⟨(some 16),(.q (.ld false 1 (.t 15))),(some (13,true)),0⟩,
⟨(some 17),(.q (.un .not (.t 16))),(some (13,true)),0⟩,
⟨(some 18),(.q (.pick (.t 13) (.t 17) (.c (.bool false)))),none,0⟩])
(.cond (.t 18) (.seq (.reg [⟨(some 19),(.q (.faddr 0 (.t 1))),none,0⟩,
⟨(some 20),(.q (.ld true 3 (.t 19))),none,0⟩,
⟨none,(.x (.st 3 (.t 2) (.t 20))),none,0⟩])
.ret) .skip))
(.seq (.reg [⟨(some 21),(.q (.faddr 0 (.t 1))),none,0⟩,
⟨(some 22),(.q (.ld true 3 (.t 21))),none,0⟩,
⟨(some 23),(.q (.faddr 3 (.t 1))),none,0⟩,
⟨(some 24),(.q (.ld true 3 (.t 23))),none,0⟩,
⟨(some 25),(.x (.call (.c (.fn 105 [] [])) [(.t 22),(.t 24)])),none,0⟩,
⟨none,(.x (.st 3 (.t 2) (.t 25))),none,0⟩])
.ret)))⟩
theorem row104 : Row Go.Proofs.Tryd.prog (104, a104) := ⟨Go.Proofs.Tryd.f104, Go.Proofs.Tryd.func104, by kernel_rfl⟩
noncomputable def a105 : AFn :=
⟨83,[(.cell 4 true 3)],(.seq (.reg [⟨(some 2),(.a (.box 25 (.t 0))),none,0⟩,
⟨(some 3),(.a (.box 25 (.t 1))),none,0⟩,
⟨(some 4),(.a (.alloc 25 [(.bool false),.nilsl,.nilsl])),none,0⟩])
(.seq (.seq (.reg [⟨(some 9),(.q (.faddr 1 (.t 2))),none,0⟩,
⟨(some 10),(.q (.ld false 1 (.t 9))),none,0⟩,
⟨(some 11),(.q (.lenSl (.t 10))),none,0⟩,
⟨(some 12),(.q (.bin .eql (.p .int) (.t 11) (.c (.int .i64 (.ofNat 0))))),none,0⟩,
⟨(some 13),(.q (.mv (.t 12))),none,0⟩,
⟨(some 14),(.q (.faddr 1 (.t 3))),(some (13,false)),0⟩,
⟨(some 15),(.q (.ld false 1 (.t 14))),(some (13,false)),0⟩,
⟨(some 16),(.q (.lenSl (.t 15))),(some (13,false)),0⟩,
⟨(some 17),(.q (.bin .eql (.p .int) (.t 16) (.c (.int .i64 (.ofNat 0))))),(some (13,false)),0⟩,
⟨(some 18),(.q (.pick (.t 13) (.c (.bool true)) (.t 17))),none,0⟩])
(.cond (.t 18) (.seq (.reg [⟨(some 19),(.x (.call (.c (.fn 55 [] [])) [])),none,0⟩,
⟨none,(.x (.st 3 (.t 4) (.t 19))),none,0⟩])
.ret) .skip))
(.seq (.reg [⟨(some 20),(.q (.faddr 0 (.t 2))),none,0⟩,
⟨(some 21),(.q (.ld false 1 (.t 20))),none,0⟩,
⟨(some 22),(.q (.faddr 0 (.t 3))),none,0⟩,
⟨(some 23),(.q (.ld false 1 (.t 22))),none,0⟩,
⟨(some 24),(.q (.bin .neq (.p .bool) (.t 21) (.t 23))),none,0⟩,
⟨(some 5),(.q (.mv (.t 24))),none,0⟩])
(.seq (.seq (.reg [⟨(some 25),(.q (.ld true 3 (.t 2))),none,0⟩,
⟨(some 26),(.q (.ld true 3 (.t 3))),none,0⟩,
⟨(some 27),(.x (.call (.c (.fn 130 [] [])) [(.t 25),(.t 26)])),none,0⟩])
(.cond (.t 27) (.seq (.drw [⟨(some 28),(.q (.mv (.t 5))),none,0⟩,
⟨(some 29),(.q (.faddr 1 (.t 2))),none,0⟩,
⟨(some 30),(.q (.ld false 1 (.t 29))),none,2⟩,
⟨(some 31),(.q (.iaddr (.slice 1) (.t 30) (.c (.int .i64 (.ofNat 0))))),none,6⟩,
⟨(some 32),(.q (.ld false 1 (.t 31))),none,14⟩,
⟨(some 33),(.q (.conv (.int .u64) (.t 32))),none,30⟩,
⟨(some 34),(.q (.faddr 1 (.t 3))),none,0⟩,
⟨(some 35),(.q (.ld false 1 (.t 34))),none,64⟩,
⟨(some 36),(.q (.iaddr (.slice 1) (.t 35) (.c (.int .i64 (.ofNat 0))))),none,192⟩,
⟨(some 37),(.q (.ld false 1 (.t 36))),none,448⟩,
⟨(some 38),(.q (.conv (.int .u64) (.t 37))),none,960⟩,
⟨(some 39),(.q (.bin .mul (.p .int) (.t 33) (.t 38))),none,2046⟩,
⟨(some 40),(.q (.faddr 2 (.t 2))),none,0⟩,
⟨(some 41),(.q (.ld false 1 (.t 40))),none,4096⟩,
⟨(some 42),(.q (.iaddr (.slice 1) (.t 41) (.c (.int .i64 (.ofNat 0))))),none,12288⟩,
⟨(some 43),(.q (.ld false 1 (.t 42))),none,28672⟩,
⟨(some 44),(.q (.conv (.int .u64) (.t 43))),none,61440⟩,
⟨(some 45),(.q (.faddr 2 (.t 3))),none,0⟩,
⟨(some 46),(.q (.ld false 1 (.t 45))),none,131072⟩,
⟨(some 47),(.q (.iaddr (.slice 1) (.t 46) (.c (.int .i64 (.ofNat 0))))),none,393216⟩,
⟨(some 48),(.q (.ld false 1 (.t 47))),none,917504⟩,
⟨(some 49),(.q (.conv (.int .u64) (.t 48))),none,1966080⟩,
⟨(some 50),(.q (.bin .mul (.p .int) (.t 44) (.t 49))),none,4190208⟩,
⟨(some 51),(.x (.call (.c (.fn 119 [] [])) [(.t 28),(.t 39),(.t 50)])),none,8388607⟩,
⟨none,(.x (.st 3 (.t 4) (.t 51))),none,16777215⟩])
.ret) .skip))
(.seq (.drw [⟨(some 52),(.q (.faddr 1 (.t 2))),none,0⟩,
⟨(some 53),(.q (.ld false 1 (.t 52))),none,1⟩,
⟨(some 54),(.q (.faddr 2 (.t 3))),none,0⟩,
⟨(some 55),(.q (.ld false 1 (.t 54))),none,4⟩,
⟨(some 56),(.x (.call (.c (.fn 116 [] [])) [(.t 53),(.t 55)])),none,15⟩,
⟨(some 57),(.q (.faddr 1 (.t 3))),none,0⟩,
⟨(some 58),(.q (.ld false 1 (.t 57))),none,32⟩,
⟨(some 59),(.q (.faddr 2 (.t 2))),none,0⟩,
⟨(some 60),(.q (.ld false 1 (.t 59))),none,128⟩,
⟨(some 61),(.x (.call (.c (.fn 116 [] [])) [(.t 58),(.t 60)])),none,511⟩,
⟨(some 6),(.q (.mv (.t 56))),none,1023⟩,
⟨(some 7),(.q (.mv (.t 61))),none,2047⟩])
(.seq (.drw [⟨(some 62),(.q (.faddr 1 (.t 2))),none,0⟩,
⟨(some 63),(.q (.ld false 1 (.t 62))),none,1⟩,
⟨(some 64),(.q (.mv (.t 6))),none,0⟩,
⟨(some 65),(.x (.call (.c (.fn 120 [] [])) [(.t 63),(.t 64)])),none,7⟩,
⟨(some 66),(.q (.faddr 1 (.t 3))),none,0⟩,
⟨(some 67),(.q (.ld false 1 (.t 66))),none,16⟩,
⟨(some 68),(.q (.mv (.t 7))),none,0⟩,
⟨(some 69),(.x (.call (.c (.fn 120 [] [])) [(.t 67),(.t 68)])),none,127⟩,
⟨(some 70),(.x (.call (.c (.fn 64 [] [])) [(.t 65),(.t 69)])),none,255⟩,
⟨(some 8),(.q (.mv (.t 70))),none,511⟩])
(.seq (.drw [⟨(some 71),(.q (.mv (.t 5))),none,0⟩,
⟨(some 72),(.q (.mv (.t 8))),none,0⟩,
⟨(some 73),(.q (.faddr 2 (.t 2))),none,0⟩,
⟨(some 74),(.q (.ld false 1 (.t 73))),none,4⟩,
⟨(some 75),(.q (.mv (.t 7))),none,0⟩,
⟨(some 76),(.x (.call (.c (.fn 120 [] [])) [(.t 74),(.t 75)])),none,28⟩,
⟨(some 77),(.q (.faddr 2 (.t 3))),none,0⟩,
⟨(some 78),(.q (.ld false 1 (.t 77))),none,64⟩,
⟨(some 79),(.q (.mv (.t 6))),none,0⟩,
⟨(some 80),(.x (.call (.c (.fn 120 [] [])) [(.t 78),(.t 79)])),none,508⟩,
⟨(some 81),(.x (.call (.c (.fn 64 [] [])) [(.t 76),(.t 80)])),none,1020⟩,
⟨(some 82),(.q (.build [(.bool false),.nilsl,.nilsl] [(0,1,(.t 71)),(1,1,(.t 72)),(2,1,(.t 81))])),none,2047⟩,
⟨none,(.x (.st 3 (.t 4) (.t 82))),none,4095⟩])
.ret)))))))⟩
theorem row105 : Row Go.Proofs.Tryd.prog (105, a105) := ⟨Go.Proofs.Tryd.f105, Go.Proofs.Tryd.func105, by kernel_rfl⟩
noncomputable def a106 : AFn :=
⟨21,[(.cell 6 true 3)],(.seq (.reg [⟨(some 3),(.a (.box 25 (.t 0))),none,0⟩,
⟨(some 6),(.a (.alloc 25 [(.bool false),.nilsl,.nilsl])),none,0⟩])
(.seq (.seq (.reg [⟨(some 9),(.q (.mv (.t 2))),none,0⟩,
⟨(some 10),(.q (.lenSl (.t 9))),none,0⟩,
⟨(some 11),(.q (.mv (.c (.int .i64 (.ofNat 0))))),none,0⟩])
(.block 0 (.loop (.seq (.reg [⟨(some 12),(.q (.bin .lss (.p .int) (.t 11) (.t 10))),none,0⟩])
(.seq (.cond (.t 12) .skip (.exit 0))
(.seq (.block 1 (.seq (.reg [⟨(some 13),(.q (.iaddr (.slice 6) (.t 9) (.t 11))),none,0⟩,
⟨(some 14),(.q (.ld true 6 (.t 13))),none,0⟩,
⟨(some 8),(.a (.alloc 80 [(.bool false),.nilsl,.nilsl,(.bool false),.nilsl,.nilsl])),none,0⟩,
⟨none,(.x (.st 6 (.t 8) (.t 14))),none,0⟩])
(.reg [⟨(some 15),(.q (.mv (.t 1))),none,0⟩,
⟨(some 16),(.q (.ld true 3 (.t 3))),none,0⟩,
⟨(some 17),(.q (.ld true 6 (.t 8))),none,0⟩,
⟨(some 18),(.x (.call (.t 15) [(.t 16),(.t 17)])),none,0⟩,
⟨none,(.x (.st 3 (.t 3) (.t 18))),none,0⟩])))
(.reg [⟨(some 19),(.q (.bin .add (.p .int) (.t 11) (.c (.int .i64 (.ofNat 1))))),none,0⟩,
⟨(some 11),(.q (.mv (.t 19))),none,0⟩])))))))
(.seq (.reg [⟨(some 20),(.q (.ld true 3 (.t 3))),none,0⟩,
⟨none,(.x (.st 3 (.t 6) (.t 20))),none,0⟩])
.ret)))⟩
theorem row106 : Row Go.Proofs.Tryd.prog (106, a106) := ⟨Go.Proofs.Tryd.f106, Go.Proofs.Tryd.func106, by kernel_rfl⟩
noncomputable def a107 : AFn :=
⟨11,[(.cell 5 true 3)],(.seq (.reg [⟨(some 3),(.a (.box 25 (.t 0))),none,0⟩,
⟨(some 4),(.a (.box 80 (.t 1))),none,0⟩,
⟨(some 5),(.a (.alloc 25 [(.bool false),.nilsl,.nilsl])),none,0⟩])
(.seq (.drw [⟨(some 6),(.q (.ld true 3 (.t 3))),none,0⟩,
⟨(some 7),(.q (.ld false 1 (.t 2))),none,0⟩,
⟨(some 8),(.q (.ld true 6 (.t 4))),none,0⟩,
⟨(some 9),(.x (.call (.t 7) [(.t 8)])),none,6⟩,
⟨(some 10),(.x (.call (.c (.fn 108 [] [])) [(.t 6),(.t 9)])),none,15⟩,
⟨none,(.x (.st 3 (.t 5) (.t 10))),none,31⟩])
.ret))⟩
theorem row107 : Row Go.Proofs.Tryd.prog (107, a107) := ⟨Go.Proofs.Tryd.f107, Go.Proofs.Tryd.func107, by kernel_rfl⟩
noncomputable def a108 : AFn :=
⟨86,[(.cell 4 true 3)],(.seq (.reg [⟨(some 2),(.a (.box 25 (.t 0))),none,0⟩,
⟨(some 3),(.a (.box 25 (.t 1))),none,0⟩,
⟨(some 4),(.a (.alloc 25 [(.bool false),.nilsl,.nilsl])),none,0⟩])
(.seq (.seq (.reg [⟨(some 11),(.q (.faddr 1 (.t 2))),none,0⟩,
⟨(some 12),(.q (.ld false 1 (.t 11))),none,0⟩,
⟨(some 13),(.q (.lenSl (.t 12))),none,0⟩,
⟨(some 14),(.q (.bin .eql (.p .int) (.t 13) (.c (.int .i64 (.ofNat 0))))),none,0⟩])
(.cond (.t 14) (.seq (.reg [⟨(some 15),(.q (.ld true 3 (.t 3))),none,0⟩,
⟨(some 16),(.x (.call (.c (.fn 50 [] [])) [(.t 15)])),none,0⟩,
⟨none,(.x (.st 3 (.t 4) (.t 16))),none,0⟩])
.ret) .skip))
(.seq (.seq (.reg [⟨(some 17),(.q (.faddr 1 (.t 3))),none,0⟩,
⟨(some 18),(.q (.ld false 1 (.t 17))),none,0⟩,
⟨(some 19),(.q (.lenSl (.t 18))),none,0⟩,
⟨(some 20),(.q (.bin .eql (.p .int) (.t 19) (.c (.int .i64 (.ofNat 0))))),none,0⟩])
(.cond (.t 20) (.seq (.reg [⟨(some 21),(.q (.ld true 3 (.t 2))),none,0⟩,
⟨(some 22),(.x (.call (.c (.fn 50 [] [])) [(.t 21)])),none,0⟩,
⟨none,(.x (.st 3 (.t 4) (.t 22))),none,0⟩])
.ret) .skip))
(.seq (.seq (.reg [⟨(some 23),(.q (.ld true 3 (.t 2))),none,0⟩,
⟨(some 24),(.q (.ld true 3 (.t 3))),none,0⟩,
⟨(some 25),(.x (.call (.c (.fn 130 [] [])) [(.t 23),(.t 24)])),none,0⟩])
(.cond (.t 25) (.seq (.reg [⟨(some 26),(.q (.ld true 3 (.t 2))),none,0⟩,
⟨(some 27),(.q (.ld true 3 (.t 3))),none,0⟩,
⟨(some 28),(.x (.call (.c (.fn 131 [] [])) [(.t 26),(.t 27)])),none,0⟩,
⟨none,(.x (.st 3 (.t 4) (.t 28))),none,0⟩])
.ret) .skip))
(.seq (.reg [⟨(some 29),(.q (.faddr 2 (.t 2))),none,0⟩,
⟨(some 30),(.q (.ld false 1 (.t 29))),none,0⟩,
⟨(some 31),(.q (.faddr 2 (.t 3))),none,0⟩,
⟨(some 32),(.q (.ld false 1 (.t 31))),none,0⟩,
⟨(some 33),(.x (.call (.c (.fn 116 [] [])) [(.t 30),(.t 32)])),none,0⟩,
⟨(some 5),(.q (.mv (.t 33))),none,0⟩])
(.seq (.drw [⟨(some 34),(.q (.faddr 2 (.t 2))),none,0⟩,
⟨(some 35),(.q (.ld false 1 (.t 34))),none,1⟩,
⟨(some 36),(.q (.mv (.t 5))),none,0⟩,
⟨(some 37),(.x (.call (.c (.fn 120 [] [])) [(.t 35),(.t 36)])),none,7⟩,
⟨(some 38),(.q (.faddr 2 (.t 3))),none,0⟩,
⟨(some 39),(.q (.ld false 1 (.t 38))),none,16⟩,
⟨(some 40),(.q (.mv (.t 5))),none,0⟩,
⟨(some 41),(.x (.call (.c (.fn 120 [] [])) [(.t 39),(.t 40)])),none,127⟩,
⟨(some 6),(.q (.mv (.t 37))),none,255⟩,
⟨(some 7),(.q (.mv (.t 41))),none,511⟩])
(.seq (.drw [⟨(some 43),(.q (.faddr 0 (.t 2))),none,0⟩,
⟨(some 44),(.q (.ld false 1 (.t 43))),none,1⟩,
⟨(some 45),(.q (.faddr 1 (.t 2))),none,0⟩,
⟨(some 46),(.q (.ld false 1 (.t 45))),none,4⟩,
⟨(some 47),(.q (.mv (.t 7))),none,0⟩,
⟨(some 48),(.x (.call (.c (.fn 64 [] [])) [(.t 46),(.t 47)])),none,28⟩,
⟨(some 49),(.q (.faddr 0 (.t 3))),none,0⟩,
⟨(some 50),(.q (.ld false 1 (.t 49))),none,64⟩,
⟨(some 51),(.q (.faddr 1 (.t 3))),none,0⟩,
⟨(some 52),(.q (.ld false 1 (.t 51))),none,256⟩,
⟨(some 53),(.q (.mv (.t 6))),none,0⟩,
⟨(some 54),(.x (.call (.c (.fn 64 [] [])) [(.t 52),(.t 53)])),none,1852⟩,
⟨(some 55),(.x (.call (.c (.fn 132 [] [])) [(.t 44),(.t 48),(.t 50),(.t 54)])),none,4095⟩,
⟨(some 42),(.q (.mv (.t 55))),none,8191⟩,
⟨(some 56),(.q (.extract (.t 42) 0)),none,16383⟩,
⟨(some 57),(.q (.extract (.t 42) 1)),none,16383⟩,
⟨(some 8),(.q (.mv (.t 56))),none,32767⟩,
⟨(some 9),(.q (.mv (.t 57))),none,131071⟩])
(.seq (.seq (.reg [⟨(some 58),(.q (.mv (.t 9))),none,0⟩,
⟨(some 59),(.q (.lenSl (.t 58))),none,0⟩,
⟨(some 60),(.q (.bin .eql (.p .int) (.t 59) (.c (.int .i64 (.ofNat 0))))),none,0⟩])
(.cond (.t 60) (.seq (.reg [⟨(some 61),(.x (.call (.c (.fn 55 [] [])) [])),none,0⟩,
⟨none,(.x (.st 3 (.t 4) (.t 61))),none,0⟩])
.ret) .skip))
(.seq (.seq (.reg [⟨(some 62),(.q (.mv (.t 5))),none,0⟩,
⟨(some 63),(.x (.call (.c (.fn 91 [] [])) [(.t 62)])),none,0⟩])
(.cond (.t 63) (.seq (.reg [⟨(some 64),(.q (.mv (.t 8))),none,0⟩,
⟨(some 65),(.q (.mv (.t 9))),none,0⟩,
⟨(some 66),(.q (.faddr 2 (.t 2))),none,0⟩,
⟨(some 67),(.q (.ld false 1 (.t 66))),none,0⟩,
⟨(some 68),(.q (.faddr 2 (.t 3))),none,0⟩,
⟨(some 69),(.q (.ld false 1 (.t 68))),none,0⟩,
⟨(some 70),(.x (.call (.c (.fn 64 [] [])) [(.t 67),(.t 69)])),none,0⟩,
⟨(some 71),(.q (.build [(.bool false),.nilsl,.nilsl] [(0,1,(.t 64)),(1,1,(.t 65)),(2,1,(.t 70))])),none,0⟩,
⟨none,(.x (.st 3 (.t 4) (.t 71))),none,0⟩])
.ret) .skip))
(.seq (.reg [⟨(some 72),(.q (.mv (.t 9))),none,0⟩,
⟨(some 73),(.q (.mv (.t 5))),none,0⟩,
⟨(some 74),(.x (.call (.c (.fn 116 [] [])) [(.t 72),(.t 73)])),none,0⟩,
⟨(some 10),(.q (.mv (.t 74))),none,0⟩])
(.seq (.drw [⟨(some 75),(.q (.mv (.t 8))),none,0⟩,
⟨(some 76),(.q (.mv (.t 9))),none,0⟩,
⟨(some 77),(.q (.mv (.t 10))),none,0⟩,
⟨(some 78),(.x (.call (.c (.fn 120 [] [])) [(.t 76),(.t 77)])),none,6⟩,
⟨(some 79),(.q (.mv (.t 6))),none,0⟩,
⟨(some 80),(.q (.faddr 2 (.t 3))),none,0⟩,
⟨(some 81),(.q (.ld false 1 (.t 80))),none,32⟩,
⟨(some 82),(.q (.mv (.t 10))),none,0⟩,
⟨(some 83),(.x (.call (.c (.fn 120 [] [])) [(.t 81),(.t 82)])),none,238⟩,
⟨(some 84),(.x (.call (.c (.fn 64 [] [])) [(.t 79),(.t 83)])),none,510⟩,
⟨(some 85),(.q (.build [(.bool false),.nilsl,.nilsl] [(0,1,(.t 75)),(1,1,(.t 78)),(2,1,(.t 84))])),none,1023⟩,
⟨none,(.x (.st 3 (.t 4) (.t 85))),none,2047⟩])
.ret)))))))))))⟩
theorem row108 : Row Go.Proofs.Tryd.prog (108, a108) := ⟨Go.Proofs.Tryd.f108, Go.Proofs.Tryd.func108, by kernel_rfl⟩
noncomputable def a113 : AFn :=
⟨29,[(.t 2)],(.seq (.reg [⟨(some 2),(.q (.mv (.c (.int .i64 (.ofNat 0))))),none,0⟩])
(.seq (.seq (.reg [⟨(some 5),(.q (.mv (.t 0))),none,0⟩,
⟨(some 6),(.q (.lenSl (.t 5))),none,0⟩,
⟨(some 7),(.q (.bin .gtr (.p .int) (.t 6) (.c (.int .i64 (.ofNat 1024))))),none,0⟩])
(.cond (.t 7) (.seq (.reg [⟨(some 2),(.q (.mv (.c (.int .i64 (.ofNat 4))))),none,0⟩])
.ret) .skip))
(.seq (.seq (.reg [⟨(some 8),(.q (.mv (.t 0))),none,0⟩,
⟨(some 9),(.q (.lenSl (.t 8))),none,0⟩,
⟨(some 10),(.q (.mv (.c (.int .i64 (.ofNat 0))))),none,0⟩])
(.block 0 (.loop (.seq (.reg [⟨(some 11),(.q (.bin .lss (.p .int) (.t 10) (.t 9))),none,0⟩])
(.seq (.cond (.t 11) .skip (.exit 0))
(.seq (.block 1 (.seq (.reg [⟨(some 12),(.q (.iaddr (.slice 1) (.t 8) (.t 10))),none,0⟩,
⟨(some 13),(.q (.ld false 1 (.t 12))),none,0⟩,
⟨(some 4),(.q (.mv (.t 13))),none,0⟩])
(.seq (.reg [⟨(some 14),(.q (.mv (.t 4))),none,0⟩,
⟨(some 15),(.q (.bin .geq (.p .int) (.t 14) (.c (.int .u32 (.ofNat 1000000000))))),none,0⟩])
(.cond (.t 15) (.seq (.reg [⟨(some 2),(.q (.mv (.c (.int .i64 (.ofNat 3))))),none,0⟩])
.ret) .skip))))
(.reg [⟨(some 16),(.q (.bin .add (.p .int) (.t 10) (.c (.int .i64 (.ofNat 1))))),none,0⟩,
⟨(some 10),(.q (.mv (.t 16))),none,0⟩])))))))
(.seq (.seq (.reg [⟨(some 17),(.q (.mv (.t 0))),none,0⟩,
⟨(some 18),(.q (.lenSl (.t 17))),none,0⟩,
⟨(some 19),(.q (.bin .gtr (.p .int) (.t 18) (.c (.int .i64 (.ofNat 0))))),none,0⟩,
⟨(some 20),(.q (.mv (.t 19))),none,0⟩,
⟨(some 21),(.q (.mv (.t 0))),(some (20,true)),0⟩,
⟨(some 22),(.q (.mv (.t 0))),(some (20,true)),0⟩,
⟨(some 23),(.q (.lenSl (.t 22))),(some (20,true)),0⟩,
⟨(some 24),(.q (.bin .sub (.p .int) (.t 23) (.c (.int .i64 (.ofNat 1))))),(some (20,true)),0⟩,
⟨(some 25),(.q (.iaddr (.slice 1) (.t 21) (.t 24))),(some (20,true)),0⟩,
⟨(some 26),(.q (.ld false 1 (.t 25))),(some (20,true)),0⟩,
⟨(some 27),(.q (.bin .eql (.p .int) (.t 26) (.c (.int .u32 (.ofNat 0))))),(some (20,true)),0⟩,
⟨(some 28),(.q (.pick (.t 20) (.t 27) (.c (.bool false)))),none,0⟩])
(.cond (.t 28) (.seq (.reg [⟨(some 2),(.q (.mv (.c (.int .i64 (.ofNat 3))))),none,0⟩])
.ret) .skip))
(.seq (.reg [⟨(some 2),(.q (.mv (.c (.int .i64 (.ofNat 0))))),none,0⟩])
.ret)))))⟩
theorem row113 : Row Go.Proofs.Tryd.prog (113, a113) := ⟨Go.Proofs.Tryd.f113, Go.Proofs.Tryd.func113, by kernel_rfl⟩
noncomputable def a114 : AFn :=
⟨37,[(.t 4)],(.seq (.reg [⟨(some 4),(.q (.mv (.c (.int .u64 (.ofNat 0))))),none,0⟩])
(.seq (.seq (.reg [⟨(some 6),(.q (.mv (.t 0))),none,0⟩,
⟨(some 7),(.q (.bin .eql (.p .int) (.t 6) (.c (.int .u64 (.ofNat 0))))),none,0⟩])
(.cond (.t 7) (.seq (.reg [⟨(some 8),(.q (.mv (.t 1))),none,0⟩,
⟨(some 4),(.q (.mv (.t 8))),none,0⟩])
.ret) .skip))
(.seq (.seq (.reg [⟨(some 9),(.q (.mv (.t 1))),none,0⟩,
⟨(some 10),(.q (.bin .eql (.p .int) (.t 9) (.c (.int .u64 (.ofNat 0))))),none,0⟩])
(.cond (.t 10) (.seq (.reg [⟨(some 11),(.q (.mv (.t 0))),none,0⟩,
⟨(some 4),(.q (.mv (.t 11))),none,0⟩])
.ret) .skip))
(.seq (.reg [⟨(some 12),(.q (.mv (.t 0))),none,0⟩,
⟨(some 13),(.q (.mv (.t 1))),none,0⟩,
⟨(some 14),(.q (.bin .or (.p .int) (.t 12) (.t 13))),none,0⟩,
⟨(some 15),(.x (.call (.c (.fn 134 [] [])) [(.t 14)])),none,0⟩,
⟨(some 5),(.q (.mv (.t 15))),none,0⟩])
(.seq (.reg [⟨(some 16),(.q (.mv (.t 0))),none,0⟩,
⟨(some 17),(.q (.mv (.t 0))),none,0⟩,
⟨(some 18),(.x (.call (.c (.fn 134 [] [])) [(.t 17)])),none,0⟩,
⟨(some 19),(.q (.bin .shr (.p .int) (.t 16) (.t 18))),none,0⟩,
⟨(some 0),(.q (.mv (.t 19))),none,0⟩])
(.seq (.block 0 (.loop (.seq (.seq (.reg [⟨(some 20),(.q (.mv (.t 1))),none,0⟩,
⟨(some 21),(.q (.bin .neq (.p .int) (.t 20) (.c (.int .u64 (.ofNat 0))))),none,0⟩])
(.cond (.t 21) .skip (.exit 0)))
(.block 1 (.seq (.reg [⟨(some 22),(.q (.mv (.t 1))),none,0⟩,
⟨(some 23),(.q (.mv (.t 1))),none,0⟩,
⟨(some 24),(.x (.call (.c (.fn 134 [] [])) [(.t 23)])),none,0⟩,
⟨(some 25),(.q (.bin .shr (.p .int) (.t 22) (.t 24))),none,0⟩,
⟨(some 1),(.q (.mv (.t 25))),none,0⟩])
(.seq (.seq (.reg [⟨(some 26),(.q (.mv (.t 0))),none,0⟩,
⟨(some 27),(.q (.mv (.t 1))),none,0⟩,
⟨(some 28),(.q (.bin .gtr (.p .int) (.t 26) (.t 27))),none,0⟩])
(.cond (.t 28) (.reg [⟨(some 29),(.q (.mv (.t 1))),none,0⟩,
⟨(some 30),(.q (.mv (.t 0))),none,0⟩,
⟨(some 0),(.q (.mv (.t 29))),none,0⟩,
⟨(some 1),(.q (.mv (.t 30))),none,0⟩]) .skip))
(.reg [⟨(some 31),(.q (.mv (.t 1))),none,0⟩,
⟨(some 32),(.q (.mv (.t 0))),none,0⟩,
⟨(some 33),(.q (.bin .sub (.p .int) (.t 31) (.t 32))),none,0⟩,
⟨(some 1),(.q (.mv (.t 33))),none,0⟩])))))))
(.seq (.reg [⟨(some 34),(.q (.mv (.t 0))),none,0⟩,
⟨(some 35),(.q (.mv (.t 5))),none,0⟩,
⟨(some 36),(.q (.bin .shl (.p .int) (.t 34) (.t 35))),none,0⟩,
⟨(some 4),(.q (.mv (.t 36))),none,0⟩])
.ret)))))))⟩
theorem row114 : Row Go.Proofs.Tryd.prog (114, a114) := ⟨Go.Proofs.Tryd.f114, Go.Proofs.Tryd.func114, by kernel_rfl⟩
noncomputable def a115 : AFn :=
⟨21,[(.t 2)],(.seq (.reg [⟨(some 2),(.q (.mv (.c (.int .u64 (.ofNat 0))))),none,0⟩])
(.seq (.reg [⟨(some 3),(.q (.mv (.c (.int .u64 (.ofNat 0))))),none,0⟩])
(.seq (.seq (.reg [⟨(some 5),(.q (.mv (.t 0))),none,0⟩,
⟨(some 6),(.q (.lenSl (.t 5))),none,0⟩,
⟨(some 7),(.q (.bin .sub (.p .int) (.t 6) (.c (.int .i64 (.ofNat 1))))),none,0⟩,
⟨(some 4),(.q (.mv (.t 7))),none,0⟩])
(.block 0 (.loop (.seq (.seq (.reg [⟨(some 8),(.q (.mv (.t 4))),none,0⟩,
⟨(some 9),(.q (.bin .geq (.p .int) (.t 8) (.c (.int .i64 (.ofNat 0))))),none,0⟩])
(.cond (.t 9) .skip (.exit 0)))
(.seq (.block 1 (.reg [⟨(some 12),(.q (.mv (.t 3))),none,0⟩,
⟨(some 13),(.q (.bin .mul (.p .int) (.t 12) (.c (.int .u64 (.ofNat 1000000000))))),none,0⟩,
⟨(some 14),(.q (.mv (.t 0))),none,0⟩,
⟨(some 15),(.q (.mv (.t 4))),none,0⟩,
⟨(some 16),(.q (.iaddr (.slice 1) (.t 14) (.t 15))),none,0⟩,
⟨(some 17),(.q (.ld false 1 (.t 16))),none,0⟩,
⟨(some 18),(.q (.conv (.int .u64) (.t 17))),none,0⟩,
⟨(some 19),(.q (.bin .add (.p .int) (.t 13) (.t 18))),none,0⟩,
⟨(some 3),(.q (.mv (.t 19))),none,0⟩]))
(.reg [⟨(some 10),(.q (.mv (.t 4))),none,0⟩,
⟨(some 11),(.q (.bin .sub (.p .int) (.t 10) (.c (.int .i64 (.ofNat 1))))),none,0⟩,
⟨(some 4),(.q (.mv (.t 11))),none,0⟩]))))))
(.seq (.reg [⟨(some 20),(.q (.mv (.t 3))),none,0⟩,
⟨(some 2),(.q (.mv (.t 20))),none,0⟩])
.ret))))⟩
theorem row115 : Row Go.Proofs.Tryd.prog (115, a115) := ⟨Go.Proofs.Tryd.f115, Go.Proofs.Tryd.func115, by kernel_rfl⟩
noncomputable def a116 : AFn :=
⟨91,[(.t 4)],(.seq (.reg [⟨(some 4),(.q (.mv (.c .nilsl))),none,0⟩])
(.seq (.seq (.reg [⟨(some 13),(.q (.mv (.t 0))),none,0⟩,
⟨(some 14),(.q (.lenSl (.t 13))),none,0⟩,
⟨(some 15),(.q (.bin .leq (.p .int) (.t 14) (.c (.int .i64 (.ofNat 2))))),none,0⟩,
⟨(some 16),(.q (.mv (.t 15))),none,0⟩,
⟨(some 17),(.q (.mv (.t 1))),(some (16,true)),0⟩,
⟨(some 18),(.q (.lenSl (.t 17))),(some (16,true)),0⟩,
⟨(some 19),(.q (.bin .leq (.p .int) (.t 18) (.c (.int .i64 (.ofNat 2))))),(some (16,true)),0⟩,
⟨(some 20),(.q (.pick (.t 16) (.t 19) (.c (.bool false)))),none,0⟩])
(.cond (.t 20) (.seq (.reg [⟨(some 21),(.q (.mv (.t 0))),none,0⟩,
⟨(some 22),(.x (.call (.c (.fn 115 [] [])) [(.t 21)])),none,0⟩,
⟨(some 23),(.q (.mv (.t 1))),none,0⟩,
⟨(some 24),(.x (.call (.c (.fn 115 [] [])) [(.t 23)])),none,0⟩,
⟨(some 25),(.x (.call (.c (.fn 114 [] [])) [(.t 22),(.t 24)])),none,0⟩,
⟨(some 26),(.x (.call (.c (.fn 81 [] [])) [(.t 25)])),none,0⟩,
⟨(some 4),(.q (.mv (.t 26))),none,0⟩])
.ret) .skip))
(.seq (.seq (.reg [⟨(some 27),(.q (.mv (.t 0))),none,0⟩,
⟨(some 28),(.x (.call (.c (.fn 91 [] [])) [(.t 27)])),none,0⟩,
⟨(some 29),(.q (.mv (.t 28))),none,0⟩,
⟨(some 30),(.q (.mv (.t 1))),(some (29,false)),0⟩,
⟨(some 31),(.x (.call (.c (.fn 91 [] [])) [(.t 30)])),(some (29,false)),0⟩,
⟨(some 32),(.q (.pick (.t 29) (.c (.bool true)) (.t 31))),none,0⟩])
(.cond (.t 32) (.seq (.reg [⟨(some 33),(.x (.call (.c (.fn 66 [] [])) [])),none,0⟩,
⟨(some 4),(.q (.mv (.t 33))),none,0⟩])
.ret) .skip))
(.seq (.seq (.reg [⟨(some 34),(.q (.mv (.t 0))),none,0⟩,
⟨(some 35),(.q (.mv (.t 1))),none,0⟩,
⟨(some 36),(.x (.call (.c (.fn 63 [] [])) [(.t 34),(.t 35)])),none,0⟩,
⟨(some 37),(.q (.bin .lss (.p .int) (.t 36) (.c (.int .i64 (.ofNat 0))))),none,0⟩])
(.cond (.t 37) (.reg [⟨(some 38),(.q (.mv (.t 1))),none,0⟩,
⟨(some 39),(.q (.mv (.t 0))),none,0⟩,
⟨(some 0),(.q (.mv (.t 38))),none,0⟩,
⟨(some 1),(.q (.mv (.t 39))),none,0⟩]) .skip))
(.seq (.block 0 (.loop (.seq (.seq (.reg [⟨(some 40),(.q (.mv (.t 1))),none,0⟩,
⟨(some 41),(.q (.lenSl (.t 40))),none,0⟩,
⟨(some 42),(.q (.bin .gtr (.p .int) (.t 41) (.c (.int .i64 (.ofNat 2))))),none,0⟩])
(.cond (.t 42) .skip (.exit 0)))
(.block 1 (.seq (.reg [⟨(some 44),(.q (.mv (.t 0))),none,0⟩,
⟨(some 45),(.q (.mv (.t 1))),none,0⟩,
⟨(some 46),(.x (.call (.c (.fn 136 [] [])) [(.t 44),(.t 45)])),none,0⟩,
⟨(some 47),(.q (.extract (.t 46) 0)),none,0⟩,
⟨(some 48),(.q (.extract (.t 46) 1)),none,0⟩,
⟨(some 49),(.x (.call (.c (.fn 135 [] [])) [(.t 47),(.t 48)])),none,0⟩,
⟨(some 43),(.q (.mv (.t 49))),none,0⟩,
⟨(some 50),(.q (.extract (.t 43) 0)),none,0⟩,
⟨(some 51),(.q (.extract (.t 43) 1)),none,0⟩,
⟨(some 52),(.q (.extract (.t 43) 2)),none,0⟩,
⟨(some 53),(.q (.extract (.t 43) 3)),none,0⟩,
⟨(some 5),(.q (.mv (.t 50))),none,0⟩,
⟨(some 6),(.q (.mv (.t 51))),none,0⟩,
⟨(some 7),(.q (.mv (.t 52))),none,0⟩,
⟨(some 8),(.q (.mv (.t 53))),none,0⟩])
(.seq (.seq (.reg [⟨(some 54),(.q (.mv (.t 6))),none,0⟩,
⟨(some 55),(.q (.bin .eql (.p .int) (.t 54) (.c (.int .i64 (.ofNat 0))))),none,0⟩])
(.cond (.t 55) (.seq (.reg [⟨(some 57),(.q (.mv (.t 0))),none,0⟩,
⟨(some 58),(.q (.mv (.t 1))),none,0⟩,
⟨(some 59),(.x (.call (.c (.fn 98 [] [])) [(.t 57),(.t 58)])),none,0⟩,
⟨(some 56),(.q (.mv (.t 59))),none,0⟩,
⟨(some 60),(.q (.extract (.t 56) 0)),none,0⟩,
⟨(some 61),(.q (.extract (.t 56) 1)),none,0⟩,
⟨(some 9),(.q (.mv (.t 60))),none,0⟩,
⟨(some 10),(.q (.mv (.t 61))),none,0⟩])
(.seq (.reg [⟨(some 62),(.q (.mv (.t 1))),none,0⟩,
⟨(some 63),(.q (.mv (.t 10))),none,0⟩,
⟨(some 0),(.q (.mv (.t 62))),none,0⟩,
⟨(some 1),(.q (.mv (.t 63))),none,0⟩])
(.exit 1))) .skip))
(.reg [⟨(some 64),(.q (.mv (.t 0))),none,0⟩,
⟨(some 65),(.q (.mv (.t 1))),none,0⟩,
⟨(some 66),(.q (.mv (.t 5))),none,0⟩,
⟨(some 67),(.q (.mv (.t 6))),none,0⟩,
⟨(some 68),(.x (.call (.c (.fn 137 [] [])) [(.t 64),(.t 65),(.t 66),(.t 67)])),none,0⟩,
⟨(some 69),(.q (.mv (.t 0))),none,0⟩,
⟨(some 70),(.q (.mv (.t 1))),none,0⟩,
⟨(some 71),(.q (.mv (.t 7))),none,0⟩,
⟨(some 72),(.q (.mv (.t 8))),none,0⟩,
⟨(some 73),(.x (.call (.c (.fn 137 [] [])) [(.t 69),(.t 70),(.t 71),(.t 72)])),none,0⟩,
⟨(some 0),(.q (.mv (.t 68))),none,0⟩,
⟨(some 1),(.q (.mv (.t 73))),none,0⟩])))))))
(.seq (.seq (.reg [⟨(some 74),(.q (.mv (.t 1))),none,0⟩,
⟨(some 75),(.q (.lenSl (.t 74))),none,0⟩,
⟨(some 76),(.q (.bin .eql (.p .int) (.t 75) (.c (.int .i64 (.ofNat 0))))),none,0⟩])
(.cond (.t 76) (.seq (.reg [⟨(some 77),(.q (.mv (.t 0))),none,0⟩,
⟨(some 78),(.x (.call (.c (.fn 96 [] [])) [(.t 77)])),none,0⟩,
⟨(some 4),(.q (.mv (.t 78))),none,0⟩])
.ret) .skip))
(.seq (.reg [⟨(some 80),(.q (.mv (.t 0))),none,0⟩,
⟨(some 81),(.q (.mv (.t 1))),none,0⟩,
⟨(some 82),(.x (.call (.c (.fn 98 [] [])) [(.t 80),(.t 81)])),none,0⟩,
⟨(some 79),(.q (.mv (.t 82))),none,0⟩,
⟨(some 83),(.q (.extract (.t 79) 0)),none,0⟩,
⟨(some 84),(.q (.extract (.t 79) 1)),none,0⟩,
⟨(some 11),(.q (.mv (.t 83))),none,0⟩,
⟨(some 12),(.q (.mv (.t 84))),none,0⟩])
(.seq (.reg [⟨(some 85),(.q (.mv (.t 1))),none,0⟩,
⟨(some 86),(.x (.call (.c (.fn 115 [] [])) [(.t 85)])),none,0⟩,
⟨(some 87),(.q (.mv (.t 12))),none,0⟩,
⟨(some 88),(.x (.call (.c (.fn 115 [] [])) [(.t 87)])),none,0⟩,
⟨(some 89),(.x (.call (.c (.fn 114 [] [])) [(.t 86),(.t 88)])),none,0⟩,
⟨(some 90),(.x (.call (.c (.fn 81 [] [])) [(.t 89)])),none,0⟩,
⟨(some 4),(.q (.mv (.t 90))),none,0⟩])
.ret))))))))⟩
theorem row116 : Row Go.Proofs.Tryd.prog (116, a116) := ⟨Go.Proofs.Tryd.f116, Go.Proofs.Tryd.func116, by kernel_rfl⟩
noncomputable def a119 : AFn :=
⟨21,[(.cell 6 true 3)],(.seq (.reg [⟨(some 6),(.a (.alloc 25 [(.bool false),.nilsl,.nilsl])),none,0⟩])
(.seq (.reg [⟨(some 8),(.q (.mv (.t 1))),none,0⟩,
⟨(some 9),(.q (.mv (.t 2))),none,0⟩,
⟨(some 10),(.x (.call (.c (.fn 114 [] [])) [(.t 8),(.t 9)])),none,0⟩,
⟨(some 7),(.q (.mv (.t 10))),none,0⟩])
(.seq (.drw [⟨(some 11),(.q (.mv (.t 0))),none,0⟩,
⟨(some 12),(.q (.mv (.t 1))),none,0⟩,
⟨(some 13),(.q (.mv (.t 7))),none,0⟩,
⟨(some 14),(.q (.bin .quo (.p .int) (.t 12) (.t 13))),none,6⟩,
⟨(some 15),(.x (.call (.c (.fn 81 [] [])) [(.t 14)])),none,14⟩,
⟨(some 16),(.q (.mv (.t 2))),none,0⟩,
⟨(some 17),(.q (.mv (.t 7))),none,0⟩,
⟨(some 18),(.q (.bin .quo (.p .int) (.t 16) (.t 17))),none,96⟩,
⟨(some 19),(.x (.call (.c (.fn 81 [] [])) [(.t 18)])),none,254⟩,
⟨(some 20),(.q (.build [(.bool false),.nilsl,.nilsl] [(0,1,(.t 11)),(1,1,(.t 15)),(2,1,(.t 19))])),none,511⟩,
⟨none,(.x (.st 3 (.t 6) (.t 20))),none,1023⟩])
.ret)))⟩
theorem row119 : Row Go.Proofs.Tryd.prog (119, a119) := ⟨Go.Proofs.Tryd.f119, Go.Proofs.Tryd.func119, by kernel_rfl⟩
noncomputable def a120 : AFn :=
⟨17,[(.t 4)],(.seq (.reg [⟨(some 4),(.q (.mv (.c .nilsl))),none,0⟩])
(.seq (.seq (.reg [⟨(some 7),(.q (.mv (.t 1))),none,0⟩,
⟨(some 8),(.x (.call (.c (.fn 91 [] [])) [(.t 7)])),none,0⟩])
(.cond (.t 8) (.seq (.reg [⟨(some 9),(.q (.mv (.t 0))),none,0⟩,
⟨(some 4),(.q (.mv (.t 9))),none,0⟩])
.ret) .skip))
(.seq (.reg [⟨(some 11),(.q (.mv (.t 0))),none,0⟩,
⟨(some 12),(.q (.mv (.t 1))),none,0⟩,
⟨(some 13),(.x (.call (.c (.fn 98 [] [])) [(.t 11),(.t 12)])),none,0⟩,
⟨(some 10),(.q (.mv (.t 13))),none,0⟩,
⟨(some 14),(.q (.extract (.t 10) 0)),none,0⟩,
⟨(some 15),(.q (.extract (.t 10) 1)),none,0⟩,
⟨(some 5),(.q (.mv (.t 14))),none,0⟩,
⟨(some 6),(.q (.mv (.t 15))),none,0⟩])
(.seq (.reg [⟨(some 16),(.q (.mv (.t 5))),none,0⟩,
⟨(some 4),(.q (.mv (.t 16))),none,0⟩])
.ret))))⟩
theorem row120 : Row Go.Proofs.Tryd.prog (120, a120) := ⟨Go.Proofs.Tryd.f120, Go.Proofs.Tryd.func120, by kernel_rfl⟩
noncomputable def a127 : AFn :=
⟨44,[(.t 4),(.t 5)],(.seq (.reg [⟨(some 4),(.q (.mv (.c .nilsl))),none,0⟩,
⟨(some 5),(.q (.mv (.c (.int .u32 (.ofNat 0))))),none,0⟩])
(.seq (.reg [⟨(some 10),(.q (.mv (.t 0))),none,0⟩,
⟨(some 11),(.q (.lenSl (.t 10))),none,0⟩,
⟨(some 12),(.a (.mkSlice 41 1 4 [(.int .u32 (.ofNat 0))] (.t 11) (.t 11))),none,0⟩,
⟨(some 6),(.q (.mv (.t 12))),none,0⟩])
(.seq (.reg [⟨(some 7),(.q (.mv (.c (.int .u64 (.ofNat 0))))),none,0⟩])
(.seq (.seq (.reg [⟨(some 13),(.q (.mv (.t 0))),none,0⟩,
⟨(some 14),(.q (.lenSl (.t 13))),none,0⟩,
⟨(some 15),(.q (.bin .sub (.p .int) (.t 14) (.c (.int .i64 (.ofNat 1))))),none,0⟩,
⟨(some 8),(.q (.mv (.t 15))),none,0⟩])
(.block 0 (.loop (.seq (.seq (.reg [⟨(some 16),(.q (.mv (.t 8))),none,0⟩,
⟨(some 17),(.q (.bin .geq (.p .int) (.t 16) (.c (.int .i64 (.ofNat 0))))),none,0⟩])
(.cond (.t 17) .skip (.exit 0)))
(.seq (.block 1 (.seq (.reg [⟨(some 20),(.q (.mv (.t 7))),none,0⟩,
⟨(some 21),(.q (.bin .mul (.p .int) (.t 20) (.c (.int .u64 (.ofNat 1000000000))))),none,0⟩,
⟨(some 22),(.q (.mv (.t 0))),none,0⟩,
⟨(some 23),(.q (.mv (.t 8))),none,0⟩,
⟨(some 24),(.q (.iaddr (.slice 1) (.t 22) (.t 23))),none,0⟩,
⟨(some 25),(.q (.ld false 1 (.t 24))),none,0⟩,
⟨(some 26),(.q (.conv (.int .u64) (.t 25))),none,0⟩,
⟨(some 27),(.q (.bin .add (.p .int) (.t 21) (.t 26))),none,0⟩,
⟨(some 9),(.q (.mv (.t 27))),none,0⟩])
(.seq (.reg [⟨(some 28),(.q (.mv (.t 6))),none,0⟩,
⟨(some 29),(.q (.mv (.t 8))),none,0⟩,
⟨(some 30),(.q (.mv (.t 9))),none,0⟩,
⟨(some 31),(.q (.mv (.t 1))),none,0⟩,
⟨(some 32),(.q (.conv (.int .u64) (.t 31))),none,0⟩,
⟨(some 33),(.q (.bin .quo (.p .int) (.t 30) (.t 32))),none,0⟩,
⟨(some 34),(.q (.conv (.int .u32) (.t 33))),none,0⟩,
⟨(some 35),(.q (.iaddr (.slice 1) (.t 28) (.t 29))),none,0⟩,
⟨none,(.x (.st 1 (.t 35) (.t 34))),none,0⟩])
(.reg [⟨(some 36),(.q (.mv (.t 9))),none,0⟩,
⟨(some 37),(.q (.mv (.t 1))),none,0⟩,
⟨(some 38),(.q (.conv (.int .u64) (.t 37))),none,0⟩,
⟨(some 39),(.q (.bin .rem (.p .int) (.t 36) (.t 38))),none,0⟩,
⟨(some 7),(.q (.mv (.t 39))),none,0⟩]))))
(.reg [⟨(some 18),(.q (.mv (.t 8))),none,0⟩,
⟨(some 19),(.q (.bin .sub (.p .int) (.t 18) (.c (.int .i64 (.ofNat 1))))),none,0⟩,
⟨(some 8),(.q (.mv (.t 19))),none,0⟩]))))))
(.seq (.reg [⟨(some 40),(.q (.mv (.t 6))),none,0⟩,
⟨(some 41),(.x (.call (.c (.fn 103 [] [])) [(.t 40)])),none,0⟩,
⟨(some 42),(.q (.mv (.t 7))),none,0⟩,
⟨(some 43),(.q (.conv (.int .u32) (.t 42))),none,0⟩,
⟨(some 4),(.q (.mv (.t 41))),none,0⟩,
⟨(some 5),(.q (.mv (.t 43))),none,0⟩])
.ret)))))⟩
theorem row127 : Row Go.Proofs.Tryd.prog (127, a127) := ⟨Go.Proofs.Tryd.f127, Go.Proofs.Tryd.func127, by kernel_rfl⟩
noncomputable def a128 : AFn :=
⟨40,[(.t 6)],(.seq (.reg [⟨(some 6),(.q (.mv (.c .nilsl))),none,0⟩])
(.seq (.reg [⟨(some 10),(.q (.mv (.t 2))),none,0⟩,
⟨(some 11),(.a (.mkSlice 41 1 4 [(.int .u32 (.ofNat 0))] (.t 10) (.t 10))),none,0⟩,
⟨(some 7),(.q (.mv (.t 11))),none,0⟩])
(.seq (.reg [⟨(some 8),(.q (.mv (.c (.int .u64 (.ofNat 0))))),none,0⟩])
(.seq (.seq (.reg [⟨(some 12),(.q (.mv (.t 7))),none,0⟩,
⟨(some 13),(.q (.lenSl (.t 12))),none,0⟩,
⟨(some 14),(.q (.mv (.c (.int .i64 (.ofNat 0))))),none,0⟩])
(.block 0 (.loop (.seq (.reg [⟨(some 15),(.q (.bin .lss (.p .int) (.t 14) (.t 13))),none,0⟩])
(.seq (.cond (.t 15) .skip (.exit 0))
(.seq (.block 1 (.seq (.reg [⟨(some 16),(.q (.mv (.t 14))),none,0⟩,
⟨(some 9),(.q (.mv (.t 16))),none,0⟩])
(.seq (.seq (.reg [⟨(some 17),(.q (.mv (.t 9))),none,0⟩,
⟨(some 18),(.q (.mv (.t 0))),none,0⟩,
⟨(some 19),(.q (.lenSl (.t 18))),none,0⟩,
⟨(some 20),(.q (.bin .lss (.p .int) (.t 17) (.t 19))),none,0⟩])
(.cond (.t 20) (.reg [⟨(some 21),(.q (.mv (.t 8))),none,0⟩,
⟨(some 22),(.q (.mv (.t 0))),none,0⟩,
⟨(some 23),(.q (.mv (.t 9))),none,0⟩,
⟨(some 24),(.q (.iaddr (.slice 1) (.t 22) (.t 23))),none,0⟩,
⟨(some 25),(.q (.ld false 1 (.t 24))),none,0⟩,
⟨(some 26),(.q (.conv (.int .u64) (.t 25))),none,0⟩,
⟨(some 27),(.q (.mv (.t 1))),none,0⟩,
⟨(some 28),(.q (.bin .mul (.p .int) (.t 26) (.t 27))),none,0⟩,
⟨(some 29),(.q (.bin .add (.p .int) (.t 21) (.t 28))),none,0⟩,
⟨(some 8),(.q (.mv (.t 29))),none,0⟩]) .skip))
(.seq (.reg [⟨(some 30),(.q (.mv (.t 7))),none,0⟩,
⟨(some 31),(.q (.mv (.t 9))),none,0⟩,
⟨(some 32),(.q (.mv (.t 8))),none,0⟩,
⟨(some 33),(.q (.bin .rem (.p .int) (.t 32) (.c (.int .u64 (.ofNat 1000000000))))),none,0⟩,
⟨(some 34),(.q (.conv (.int .u32) (.t 33))),none,0⟩,
⟨(some 35),(.q (.iaddr (.slice 1) (.t 30) (.t 31))),none,0⟩,
⟨none,(.x (.st 1 (.t 35) (.t 34))),none,0⟩])
(.reg [⟨(some 36),(.q (.mv (.t 8))),none,0⟩,
⟨(some 37),(.q (.bin .quo (.p .int) (.t 36) (.c (.int .u64 (.ofNat 1000000000))))),none,0⟩,
⟨(some 8),(.q (.mv (.t 37))),none,0⟩])))))
(.reg [⟨(some 38),(.q (.bin .add (.p .int) (.t 14) (.c (.int .i64 (.ofNat 1))))),none,0⟩,
⟨(some 14),(.q (.mv (.t 38))),none,0⟩])))))))
(.seq (.reg [⟨(some 39),(.q (.mv (.t 7))),none,0⟩,
⟨(some 6),(.q (.mv (.t 39))),none,0⟩])
.ret)))))⟩
theorem row128 : Row Go.Proofs.Tryd.prog (128, a128) := ⟨Go.Proofs.Tryd.f128, Go.Proofs.Tryd.func128, by kernel_rfl⟩
end Go.Ev.Gl
