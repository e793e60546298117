/- Functions of the program as data of the evaluator, written by program; each is shown to be the compiler's result on the loaded function. -/
import Derived.Test.YtmbmidkdinllgaaDoorProg
import Derived.Test.YtmbmidkdinllgaaDoorEv8
import Derived.KernelRfl
namespace Go.Ev.Gl
set_option maxRecDepth 100000
noncomputable def a53 : AFn :=
⟨68,[(.cell 2 true 3)],(.seq (.reg [⟨(some 1),(.a (.box 68 (.t 0))),none,0⟩,
⟨(some 2),(.a (.alloc 25 [(.bool false),.nilsl,.nilsl])),none,0⟩])
(.seq (.reg [⟨(some 9),(.q (.faddr 0 (.t 1))),none,0⟩,
⟨(some 10),(.q (.faddr 1 (.t 9))),none,0⟩,
⟨(some 11),(.q (.ld false 1 (.t 10))),none,0⟩,
⟨(some 12),(.q (.faddr 0 (.t 1))),none,0⟩,
⟨(some 13),(.q (.faddr 2 (.t 12))),none,0⟩,
⟨(some 14),(.q (.ld false 1 (.t 13))),none,0⟩,
⟨(some 15),(.x (.call (.c (.fn 98 [] [])) [(.t 11),(.t 14)])),none,0⟩,
⟨(some 8),(.q (.mv (.t 15))),none,0⟩,
⟨(some 16),(.q (.extract (.t 8) 0)),none,0⟩,
⟨(some 17),(.q (.extract (.t 8) 1)),none,0⟩,
⟨(some 3),(.q (.mv (.t 16))),none,0⟩,
⟨(some 4),(.q (.mv (.t 17))),none,0⟩])
(.seq (.reg [⟨(some 18),(.q (.mv (.t 3))),none,0⟩,
⟨(some 5),(.q (.mv (.t 18))),none,0⟩])
(.seq (.seq (.reg [⟨(some 19),(.q (.mv (.t 4))),none,0⟩,
⟨(some 20),(.q (.lenSl (.t 19))),none,0⟩,
⟨(some 21),(.q (.bin .gtr (.p .int) (.t 20) (.c (.int .i64 (.ofNat 0))))),none,0⟩])
(.cond (.t 21) (.reg [⟨(some 22),(.q (.mv (.t 3))),none,0⟩,
⟨(some 23),(.x (.call (.c (.fn 66 [] [])) [])),none,0⟩,
⟨(some 24),(.x (.call (.c (.fn 99 [] [])) [(.t 22),(.t 23)])),none,0⟩,
⟨(some 5),(.q (.mv (.t 24))),none,0⟩]) .skip))
(.seq (.seq (.drw [⟨(some 25),(.q (.mv (.t 5))),none,0⟩,
⟨(some 26),(.q (.faddr 3 (.t 1))),none,0⟩,
⟨(some 27),(.q (.faddr 2 (.t 26))),none,2⟩,
⟨(some 28),(.q (.ld false 1 (.t 27))),none,6⟩,
⟨(some 29),(.x (.call (.c (.fn 64 [] [])) [(.t 25),(.t 28)])),none,15⟩,
⟨(some 30),(.q (.faddr 3 (.t 1))),none,0⟩,
⟨(some 31),(.q (.faddr 1 (.t 30))),none,32⟩,
⟨(some 32),(.q (.ld false 1 (.t 31))),none,96⟩,
⟨(some 33),(.x (.call (.c (.fn 63 [] [])) [(.t 29),(.t 32)])),none,255⟩,
⟨(some 34),(.q (.bin .leq (.p .int) (.t 33) (.c (.int .i64 (.ofNat 0))))),none,511⟩])
(.cond (.t 34) (.seq (.reg [⟨(some 35),(.q (.mv (.t 5))),none,0⟩,
⟨(some 36),(.x (.call (.c (.fn 65 [] [])) [(.c (.bool false)),(.t 35)])),none,0⟩,
⟨none,(.x (.st 3 (.t 2) (.t 36))),none,0⟩])
.ret) .skip))
(.seq (.drw [⟨(some 37),(.q (.faddr 3 (.t 1))),none,0⟩,
⟨(some 38),(.q (.faddr 1 (.t 37))),none,1⟩,
⟨(some 39),(.q (.ld false 1 (.t 38))),none,3⟩,
⟨(some 40),(.q (.mv (.t 3))),none,0⟩,
⟨(some 41),(.q (.faddr 3 (.t 1))),none,0⟩,
⟨(some 42),(.q (.faddr 2 (.t 41))),none,16⟩,
⟨(some 43),(.q (.ld false 1 (.t 42))),none,48⟩,
⟨(some 44),(.x (.call (.c (.fn 64 [] [])) [(.t 40),(.t 43)])),none,120⟩,
⟨(some 45),(.x (.call (.c (.fn 100 [] [])) [(.t 39),(.t 44)])),none,255⟩,
⟨(some 6),(.q (.mv (.t 45))),none,511⟩])
(.seq (.reg [⟨(some 46),(.q (.faddr 3 (.t 1))),none,0⟩,
⟨(some 47),(.q (.faddr 2 (.t 46))),none,0⟩,
⟨(some 48),(.q (.ld false 1 (.t 47))),none,0⟩,
⟨(some 49),(.q (.mv (.t 6))),none,0⟩,
⟨(some 50),(.q (.build [(.bool false),.nilsl,.nilsl] [(1,1,(.t 48)),(2,1,(.t 49))])),none,0⟩,
⟨(some 51),(.q (.faddr 0 (.t 1))),none,0⟩,
⟨(some 52),(.q (.faddr 2 (.t 51))),none,0⟩,
⟨(some 53),(.q (.ld false 1 (.t 52))),none,0⟩,
⟨(some 54),(.q (.mv (.t 4))),none,0⟩,
⟨(some 55),(.q (.build [(.bool false),.nilsl,.nilsl] [(1,1,(.t 53)),(2,1,(.t 54))])),none,0⟩,
⟨(some 56),(.q (.build [(.bool false),.nilsl,.nilsl,(.bool false),.nilsl,.nilsl] [(0,3,(.t 50)),(3,3,(.t 55))])),none,0⟩,
⟨(some 57),(.x (.call (.c (.fn 53 [] [])) [(.t 56)])),none,0⟩,
⟨(some 7),(.a (.alloc 25 [(.bool false),.nilsl,.nilsl])),none,0⟩,
⟨none,(.x (.st 3 (.t 7) (.t 57))),none,0⟩])
(.seq (.drw [⟨(some 58),(.q (.mv (.t 3))),none,0⟩,
⟨(some 59),(.q (.faddr 1 (.t 7))),none,0⟩,
⟨(some 60),(.q (.ld false 1 (.t 59))),none,2⟩,
⟨(some 61),(.x (.call (.c (.fn 64 [] [])) [(.t 58),(.t 60)])),none,7⟩,
⟨(some 62),(.q (.faddr 2 (.t 7))),none,0⟩,
⟨(some 63),(.q (.ld false 1 (.t 62))),none,16⟩,
⟨(some 64),(.x (.call (.c (.fn 99 [] [])) [(.t 61),(.t 63)])),none,63⟩,
⟨(some 65),(.q (.faddr 1 (.t 7))),none,0⟩,
⟨(some 66),(.q (.ld false 1 (.t 65))),none,128⟩,
⟨(some 67),(.q (.build [(.bool false),.nilsl,.nilsl] [(1,1,(.t 64)),(2,1,(.t 66))])),none,511⟩,
⟨none,(.x (.st 3 (.t 2) (.t 67))),none,1023⟩])
.ret))))))))⟩
theorem row53 : Row Go.Proofs.Tryd.prog (53, a53) := ⟨Go.Proofs.Tryd.f53, Go.Proofs.Tryd.func53, by kernel_rfl⟩
noncomputable def a54 : AFn :=
⟨6,[(.cell 2 true 3)],(.seq (.reg [⟨(some 1),(.a (.box 25 (.t 0))),none,0⟩,
⟨(some 2),(.a (.alloc 25 [(.bool false),.nilsl,.nilsl])),none,0⟩])
(.seq (.reg [⟨(some 3),(.q (.ld true 3 (.t 1))),none,0⟩,
⟨(some 4),(.x (.call (.c (.fn 101 [] [])) [(.t 3)])),none,0⟩,
⟨(some 5),(.x (.call (.c (.fn 50 [] [])) [(.t 4)])),none,0⟩,
⟨none,(.x (.st 3 (.t 2) (.t 5))),none,0⟩])
.ret))⟩
theorem row54 : Row Go.Proofs.Tryd.prog (54, a54) := ⟨Go.Proofs.Tryd.f54, Go.Proofs.Tryd.func54, by kernel_rfl⟩
noncomputable def a55 : AFn :=
⟨3,[(.cell 0 true 3)],(.seq (.reg [⟨(some 0),(.a (.alloc 25 [(.bool false),.nilsl,.nilsl])),none,0⟩])
(.seq (.reg [⟨(some 1),(.x (.call (.c (.fn 66 [] [])) [])),none,0⟩,
⟨(some 2),(.q (.build [(.bool false),.nilsl,.nilsl] [(2,1,(.t 1))])),none,0⟩,
⟨none,(.x (.st 3 (.t 0) (.t 2))),none,0⟩])
.ret))⟩
theorem row55 : Row Go.Proofs.Tryd.prog (55, a55) := ⟨Go.Proofs.Tryd.f55, Go.Proofs.Tryd.func55, by kernel_rfl⟩
noncomputable def a60 : AFn :=
⟨15,[(.t 4)],(.seq (.reg [⟨(some 4),(.q (.mv (.c (.int .i64 (.ofNat 0))))),none,0⟩])
(.seq (.block 0 (.loop (.seq (.seq (.reg [⟨(some 5),(.q (.mv (.t 1))),none,0⟩,
⟨(some 6),(.q (.bin .neq (.p .int) (.t 5) (.c (.int .i64 (.ofNat 0))))),none,0⟩])
(.cond (.t 6) .skip (.exit 0)))
(.block 1 (.drw [⟨(some 7),(.q (.mv (.t 1))),none,0⟩,
⟨(some 8),(.q (.mv (.t 0))),none,0⟩,
⟨(some 9),(.q (.mv (.t 1))),none,0⟩,
⟨(some 10),(.q (.bin .rem (.p .int) (.t 8) (.t 9))),none,6⟩,
⟨(some 0),(.q (.mv (.t 7))),none,3⟩,
⟨(some 1),(.q (.mv (.t 10))),none,31⟩])))))
(.seq (.reg [⟨(some 11),(.q (.mv (.t 0))),none,0⟩,
⟨(some 12),(.q (.mv (.t 0))),none,0⟩,
⟨(some 13),(.q (.un .neg (.t 12))),none,0⟩,
⟨(some 14),(.q (.minmax true [(.t 11),(.t 13)])),none,0⟩,
⟨(some 4),(.q (.mv (.t 14))),none,0⟩])
.ret)))⟩
theorem row60 : Row Go.Proofs.Tryd.prog (60, a60) := ⟨Go.Proofs.Tryd.f60, Go.Proofs.Tryd.func60, by kernel_rfl⟩
noncomputable def a61 : AFn :=
⟨15,[(.t 2)],(.seq (.reg [⟨(some 2),(.q (.mv (.c .nilsl))),none,0⟩])
(.seq (.reg [⟨(some 3),(.q (.mv (.c .nilsl))),none,0⟩])
(.seq (.block 0 (.loop (.seq (.seq (.reg [⟨(some 4),(.q (.mv (.t 0))),none,0⟩,
⟨(some 5),(.q (.bin .gtr (.p .int) (.t 4) (.c (.int .i64 (.ofNat 0))))),none,0⟩])
(.cond (.t 5) .skip (.exit 0)))
(.block 1 (.seq (.reg [⟨(some 6),(.q (.mv (.t 3))),none,0⟩,
⟨(some 7),(.q (.mv (.t 0))),none,0⟩,
⟨(some 8),(.q (.bin .rem (.p .int) (.t 7) (.c (.int .i64 (.ofNat 1000000000))))),none,0⟩,
⟨(some 9),(.q (.conv (.int .u32) (.t 8))),none,0⟩,
⟨(some 10),(.a (.bslice 41 1 1 [(.int .u32 (.ofNat 0))] [(0,(.t 9))])),none,0⟩,
⟨(some 11),(.x (.app 41 1 4 (.t 6) (.t 10))),none,0⟩,
⟨(some 3),(.q (.mv (.t 11))),none,0⟩])
(.reg [⟨(some 12),(.q (.mv (.t 0))),none,0⟩,
⟨(some 13),(.q (.bin .quo (.p .int) (.t 12) (.c (.int .i64 (.ofNat 1000000000))))),none,0⟩,
⟨(some 0),(.q (.mv (.t 13))),none,0⟩]))))))
(.seq (.reg [⟨(some 14),(.q (.mv (.t 3))),none,0⟩,
⟨(some 2),(.q (.mv (.t 14))),none,0⟩])
.ret))))⟩
theorem row61 : Row Go.Proofs.Tryd.prog (61, a61) := ⟨Go.Proofs.Tryd.f61, Go.Proofs.Tryd.func61, by kernel_rfl⟩
noncomputable def a62 : AFn :=
⟨13,[(.t 4)],(.seq (.reg [⟨(some 2),(.a (.box 25 (.t 0))),none,0⟩,
⟨(some 3),(.a (.box 25 (.t 1))),none,0⟩,
⟨(some 4),(.q (.mv (.c (.int .i64 (.ofNat 0))))),none,0⟩])
(.seq (.seq (.reg [⟨(some 6),(.q (.ld true 3 (.t 2))),none,0⟩,
⟨(some 7),(.x (.call (.c (.fn 31 [] [])) [(.t 6)])),none,0⟩,
⟨(some 5),(.q (.mv (.t 7))),none,0⟩])
(.seq (.reg [⟨(some 8),(.q (.mv (.t 5))),none,0⟩,
⟨(some 9),(.q (.bin .neq (.p .int) (.t 8) (.c (.int .i64 (.ofNat 0))))),none,0⟩])
(.cond (.t 9) (.seq (.reg [⟨(some 10),(.q (.mv (.t 5))),none,0⟩,
⟨(some 4),(.q (.mv (.t 10))),none,0⟩])
.ret) .skip)))
(.seq (.reg [⟨(some 11),(.q (.ld true 3 (.t 3))),none,0⟩,
⟨(some 12),(.x (.call (.c (.fn 31 [] [])) [(.t 11)])),none,0⟩,
⟨(some 4),(.q (.mv (.t 12))),none,0⟩])
.ret)))⟩
theorem row62 : Row Go.Proofs.Tryd.prog (62, a62) := ⟨Go.Proofs.Tryd.f62, Go.Proofs.Tryd.func62, by kernel_rfl⟩
noncomputable def a63 : AFn :=
⟨41,[(.t 4)],(.seq (.reg [⟨(some 4),(.q (.mv (.c (.int .i64 (.ofNat 0))))),none,0⟩])
(.seq (.seq (.reg [⟨(some 6),(.q (.mv (.t 0))),none,0⟩,
⟨(some 7),(.q (.lenSl (.t 6))),none,0⟩,
⟨(some 8),(.q (.mv (.t 1))),none,0⟩,
⟨(some 9),(.q (.lenSl (.t 8))),none,0⟩,
⟨(some 10),(.q (.bin .neq (.p .int) (.t 7) (.t 9))),none,0⟩])
(.cond (.t 10) (.seq (.seq (.reg [⟨(some 11),(.q (.mv (.t 0))),none,0⟩,
⟨(some 12),(.q (.lenSl (.t 11))),none,0⟩,
⟨(some 13),(.q (.mv (.t 1))),none,0⟩,
⟨(some 14),(.q (.lenSl (.t 13))),none,0⟩,
⟨(some 15),(.q (.bin .lss (.p .int) (.t 12) (.t 14))),none,0⟩])
(.cond (.t 15) (.seq (.reg [⟨(some 4),(.q (.mv (.c (.int .i64 (.negSucc 0))))),none,0⟩])
.ret) .skip))
(.seq (.reg [⟨(some 4),(.q (.mv (.c (.int .i64 (.ofNat 1))))),none,0⟩])
.ret)) .skip))
(.seq (.seq (.reg [⟨(some 16),(.q (.mv (.t 0))),none,0⟩,
⟨(some 17),(.q (.lenSl (.t 16))),none,0⟩,
⟨(some 18),(.q (.bin .sub (.p .int) (.t 17) (.c (.int .i64 (.ofNat 1))))),none,0⟩,
⟨(some 5),(.q (.mv (.t 18))),none,0⟩])
(.block 0 (.loop (.seq (.seq (.reg [⟨(some 19),(.q (.mv (.t 5))),none,0⟩,
⟨(some 20),(.q (.bin .geq (.p .int) (.t 19) (.c (.int .i64 (.ofNat 0))))),none,0⟩])
(.cond (.t 20) .skip (.exit 0)))
(.seq (.block 1 (.seq (.seq (.drw [⟨(some 23),(.q (.mv (.t 0))),none,0⟩,
⟨(some 24),(.q (.mv (.t 5))),none,0⟩,
⟨(some 25),(.q (.iaddr (.slice 1) (.t 23) (.t 24))),none,3⟩,
⟨(some 26),(.q (.ld false 1 (.t 25))),none,7⟩,
⟨(some 27),(.q (.mv (.t 1))),none,0⟩,
⟨(some 28),(.q (.mv (.t 5))),none,0⟩,
⟨(some 29),(.q (.iaddr (.slice 1) (.t 27) (.t 28))),none,48⟩,
⟨(some 30),(.q (.ld false 1 (.t 29))),none,112⟩,
⟨(some 31),(.q (.bin .lss (.p .int) (.t 26) (.t 30))),none,255⟩])
(.cond (.t 31) (.seq (.reg [⟨(some 4),(.q (.mv (.c (.int .i64 (.negSucc 0))))),none,0⟩])
.ret) .skip))
(.seq (.drw [⟨(some 32),(.q (.mv (.t 0))),none,0⟩,
⟨(some 33),(.q (.mv (.t 5))),none,0⟩,
⟨(some 34),(.q (.iaddr (.slice 1) (.t 32) (.t 33))),none,3⟩,
⟨(some 35),(.q (.ld false 1 (.t 34))),none,7⟩,
⟨(some 36),(.q (.mv (.t 1))),none,0⟩,
⟨(some 37),(.q (.mv (.t 5))),none,0⟩,
⟨(some 38),(.q (.iaddr (.slice 1) (.t 36) (.t 37))),none,48⟩,
⟨(some 39),(.q (.ld false 1 (.t 38))),none,112⟩,
⟨(some 40),(.q (.bin .gtr (.p .int) (.t 35) (.t 39))),none,255⟩])
(.cond (.t 40) (.seq (.reg [⟨(some 4),(.q (.mv (.c (.int .i64 (.ofNat 1))))),none,0⟩])
.ret) .skip))))
(.reg [⟨(some 21),(.q (.mv (.t 5))),none,0⟩,
⟨(some 22),(.q (.bin .sub (.p .int) (.t 21) (.c (.int .i64 (.ofNat 1))))),none,0⟩,
⟨(some 5),(.q (.mv (.t 22))),none,0⟩]))))))
(.seq (.reg [⟨(some 4),(.q (.mv (.c (.int .i64 (.ofNat 0))))),none,0⟩])
.ret))))⟩
theorem row63 : Row Go.Proofs.Tryd.prog (63, a63) := ⟨Go.Proofs.Tryd.f63, Go.Proofs.Tryd.func63, by kernel_rfl⟩
noncomputable def a64 : AFn :=
⟨77,[(.t 4)],(.seq (.reg [⟨(some 4),(.q (.mv (.c .nilsl))),none,0⟩])
(.seq (.seq (.reg [⟨(some 13),(.q (.mv (.t 0))),none,0⟩,
⟨(some 14),(.q (.lenSl (.t 13))),none,0⟩,
⟨(some 15),(.q (.bin .eql (.p .int) (.t 14) (.c (.int .i64 (.ofNat 0))))),none,0⟩,
⟨(some 16),(.q (.mv (.t 15))),none,0⟩,
⟨(some 17),(.q (.mv (.t 1))),(some (16,false)),0⟩,
⟨(some 18),(.q (.lenSl (.t 17))),(some (16,false)),0⟩,
⟨(some 19),(.q (.bin .eql (.p .int) (.t 18) (.c (.int .i64 (.ofNat 0))))),(some (16,false)),0⟩,
⟨(some 20),(.q (.pick (.t 16) (.c (.bool true)) (.t 19))),none,0⟩])
(.cond (.t 20) (.seq (.reg [⟨(some 4),(.q (.mv (.c .nilsl))),none,0⟩])
.ret) .skip))
(.seq (.reg [⟨(some 21),(.q (.mv (.t 0))),none,0⟩,
⟨(some 22),(.q (.lenSl (.t 21))),none,0⟩,
⟨(some 23),(.q (.mv (.t 1))),none,0⟩,
⟨(some 24),(.q (.lenSl (.t 23))),none,0⟩,
⟨(some 25),(.q (.bin .add (.p .int) (.t 22) (.t 24))),none,0⟩,
⟨(some 26),(.a (.mkSlice 41 1 4 [(.int .u32 (.ofNat 0))] (.t 25) (.t 25))),none,0⟩,
⟨(some 5),(.q (.mv (.t 26))),none,0⟩])
(.seq (.seq (.reg [⟨(some 27),(.q (.mv (.t 0))),none,0⟩,
⟨(some 28),(.q (.lenSl (.t 27))),none,0⟩,
⟨(some 29),(.q (.mv (.c (.int .i64 (.ofNat 0))))),none,0⟩])
(.block 0 (.loop (.seq (.reg [⟨(some 30),(.q (.bin .lss (.p .int) (.t 29) (.t 28))),none,0⟩])
(.seq (.cond (.t 30) .skip (.exit 0))
(.seq (.block 1 (.seq (.reg [⟨(some 31),(.q (.mv (.t 29))),none,0⟩,
⟨(some 32),(.q (.iaddr (.slice 1) (.t 27) (.t 29))),none,0⟩,
⟨(some 33),(.q (.ld false 1 (.t 32))),none,0⟩,
⟨(some 6),(.q (.mv (.t 31))),none,0⟩,
⟨(some 7),(.q (.mv (.t 33))),none,0⟩])
(.seq (.reg [⟨(some 34),(.q (.mv (.t 5))),none,0⟩,
⟨(some 35),(.q (.mv (.t 6))),none,0⟩,
⟨(some 36),(.q (.slc (.slice 1) (.t 34) (some (.t 35)) none none)),none,0⟩,
⟨(some 8),(.q (.mv (.t 36))),none,0⟩])
(.seq (.reg [⟨(some 9),(.q (.mv (.c (.int .u64 (.ofNat 0))))),none,0⟩])
(.seq (.seq (.reg [⟨(some 37),(.q (.mv (.t 1))),none,0⟩,
⟨(some 38),(.q (.lenSl (.t 37))),none,0⟩,
⟨(some 39),(.q (.mv (.c (.int .i64 (.ofNat 0))))),none,0⟩])
(.block 2 (.loop (.seq (.reg [⟨(some 40),(.q (.bin .lss (.p .int) (.t 39) (.t 38))),none,0⟩])
(.seq (.cond (.t 40) .skip (.exit 2))
(.seq (.block 3 (.seq (.reg [⟨(some 41),(.q (.mv (.t 39))),none,0⟩,
⟨(some 42),(.q (.iaddr (.slice 1) (.t 37) (.t 39))),none,0⟩,
⟨(some 43),(.q (.ld false 1 (.t 42))),none,0⟩,
⟨(some 10),(.q (.mv (.t 41))),none,0⟩,
⟨(some 11),(.q (.mv (.t 43))),none,0⟩])
(.seq (.reg [⟨(some 44),(.q (.mv (.t 7))),none,0⟩,
⟨(some 45),(.q (.conv (.int .u64) (.t 44))),none,0⟩,
⟨(some 46),(.q (.mv (.t 11))),none,0⟩,
⟨(some 47),(.q (.conv (.int .u64) (.t 46))),none,0⟩,
⟨(some 48),(.q (.bin .mul (.p .int) (.t 45) (.t 47))),none,0⟩,
⟨(some 49),(.q (.mv (.t 8))),none,0⟩,
⟨(some 50),(.q (.mv (.t 10))),none,0⟩,
⟨(some 51),(.q (.iaddr (.slice 1) (.t 49) (.t 50))),none,0⟩,
⟨(some 52),(.q (.ld false 1 (.t 51))),none,0⟩,
⟨(some 53),(.q (.conv (.int .u64) (.t 52))),none,0⟩,
⟨(some 54),(.q (.bin .add (.p .int) (.t 48) (.t 53))),none,0⟩,
⟨(some 55),(.q (.mv (.t 9))),none,0⟩,
⟨(some 56),(.q (.bin .add (.p .int) (.t 54) (.t 55))),none,0⟩,
⟨(some 12),(.q (.mv (.t 56))),none,0⟩])
(.seq (.reg [⟨(some 57),(.q (.mv (.t 12))),none,0⟩,
⟨(some 58),(.q (.bin .quo (.p .int) (.t 57) (.c (.int .u64 (.ofNat 1000000000))))),none,0⟩,
⟨(some 9),(.q (.mv (.t 58))),none,0⟩])
(.reg [⟨(some 59),(.q (.mv (.t 8))),none,0⟩,
⟨(some 60),(.q (.mv (.t 10))),none,0⟩,
⟨(some 61),(.q (.mv (.t 12))),none,0⟩,
⟨(some 62),(.q (.mv (.t 9))),none,0⟩,
⟨(some 63),(.q (.bin .mul (.p .int) (.t 62) (.c (.int .u64 (.ofNat 1000000000))))),none,0⟩,
⟨(some 64),(.q (.bin .sub (.p .int) (.t 61) (.t 63))),none,0⟩,
⟨(some 65),(.q (.conv (.int .u32) (.t 64))),none,0⟩,
⟨(some 66),(.q (.iaddr (.slice 1) (.t 59) (.t 60))),none,0⟩,
⟨none,(.x (.st 1 (.t 66) (.t 65))),none,0⟩])))))
(.reg [⟨(some 67),(.q (.bin .add (.p .int) (.t 39) (.c (.int .i64 (.ofNat 1))))),none,0⟩,
⟨(some 39),(.q (.mv (.t 67))),none,0⟩])))))))
(.reg [⟨(some 68),(.q (.mv (.t 8))),none,0⟩,
⟨(some 69),(.q (.mv (.t 1))),none,0⟩,
⟨(some 70),(.q (.lenSl (.t 69))),none,0⟩,
⟨(some 71),(.q (.mv (.t 9))),none,0⟩,
⟨(some 72),(.q (.conv (.int .u32) (.t 71))),none,0⟩,
⟨(some 73),(.q (.iaddr (.slice 1) (.t 68) (.t 70))),none,0⟩,
⟨none,(.x (.st 1 (.t 73) (.t 72))),none,0⟩]))))))
(.reg [⟨(some 74),(.q (.bin .add (.p .int) (.t 29) (.c (.int .i64 (.ofNat 1))))),none,0⟩,
⟨(some 29),(.q (.mv (.t 74))),none,0⟩])))))))
(.seq (.reg [⟨(some 75),(.q (.mv (.t 5))),none,0⟩,
⟨(some 76),(.x (.call (.c (.fn 103 [] [])) [(.t 75)])),none,0⟩,
⟨(some 4),(.q (.mv (.t 76))),none,0⟩])
.ret)))))⟩
theorem row64 : Row Go.Proofs.Tryd.prog (64, a64) := ⟨Go.Proofs.Tryd.f64, Go.Proofs.Tryd.func64, by kernel_rfl⟩
noncomputable def a65 : AFn :=
⟨15,[(.cell 4 true 3)],(.seq (.reg [⟨(some 4),(.a (.alloc 25 [(.bool false),.nilsl,.nilsl])),none,0⟩])
(.seq (.reg [⟨(some 5),(.q (.mv (.t 0))),none,0⟩,
⟨(some 6),(.q (.mv (.t 5))),none,0⟩,
⟨(some 7),(.q (.mv (.t 1))),(some (6,true)),0⟩,
⟨(some 8),(.q (.lenSl (.t 7))),(some (6,true)),0⟩,
⟨(some 9),(.q (.bin .gtr (.p .int) (.t 8) (.c (.int .i64 (.ofNat 0))))),(some (6,true)),0⟩,
⟨(some 10),(.q (.pick (.t 6) (.t 9) (.c (.bool false)))),none,0⟩,
⟨(some 11),(.q (.mv (.t 1))),none,0⟩,
⟨(some 12),(.x (.call (.c (.fn 96 [] [])) [(.t 11)])),none,0⟩,
⟨(some 13),(.x (.call (.c (.fn 66 [] [])) [])),none,0⟩,
⟨(some 14),(.q (.build [(.bool false),.nilsl,.nilsl] [(0,1,(.t 10)),(1,1,(.t 12)),(2,1,(.t 13))])),none,0⟩,
⟨none,(.x (.st 3 (.t 4) (.t 14))),none,0⟩])
.ret))⟩
theorem row65 : Row Go.Proofs.Tryd.prog (65, a65) := ⟨Go.Proofs.Tryd.f65, Go.Proofs.Tryd.func65, by kernel_rfl⟩
noncomputable def a66 : AFn :=
⟨2,[(.t 0)],(.seq (.reg [⟨(some 0),(.q (.mv (.c .nilsl))),none,0⟩])
(.seq (.reg [⟨(some 1),(.a (.bslice 41 1 1 [(.int .u32 (.ofNat 0))] [(0,(.c (.int .u32 (.ofNat 1))))])),none,0⟩,
⟨(some 0),(.q (.mv (.t 1))),none,0⟩])
.ret))⟩
theorem row66 : Row Go.Proofs.Tryd.prog (66, a66) := ⟨Go.Proofs.Tryd.f66, Go.Proofs.Tryd.func66, by kernel_rfl⟩
noncomputable def a67 : AFn :=
⟨12,[(.cell 2 true 3),(.t 3)],(.seq (.reg [⟨(some 2),(.a (.alloc 25 [(.bool false),.nilsl,.nilsl])),none,0⟩,
⟨(some 3),(.q (.mv (.c (.int .i64 (.ofNat 0))))),none,0⟩])
(.seq (.reg [⟨(some 4),(.a (.alloc 109 [.nilfn])),none,0⟩,
⟨none,(.x (.st 1 (.t 4) (.c (.fn 104 [] [])))),none,0⟩])
(.seq (.reg [⟨(some 5),(.x (.call (.c (.fn 55 [] [])) [])),none,0⟩,
⟨(some 6),(.q (.mkFunc 107 [] [(.t 4)])),none,0⟩,
⟨(some 7),(.q (.mv (.t 0))),none,0⟩,
⟨(some 8),(.x (.call (.c (.fn 106 [] [])) [(.t 5),(.t 6),(.t 7)])),none,0⟩,
⟨(some 9),(.x (.call (.c (.fn 52 [] [])) [(.t 8)])),none,0⟩,
⟨(some 10),(.q (.extract (.t 9) 0)),none,0⟩,
⟨(some 11),(.q (.extract (.t 9) 1)),none,0⟩,
⟨none,(.x (.st 3 (.t 2) (.t 10))),none,0⟩,
⟨(some 3),(.q (.mv (.t 11))),none,0⟩])
.ret)))⟩
theorem row67 : Row Go.Proofs.Tryd.prog (67, a67) := ⟨Go.Proofs.Tryd.f67, Go.Proofs.Tryd.func67, by kernel_rfl⟩
noncomputable def a74 : AFn :=
⟨20,[(.t 4)],(.seq (.reg [⟨(some 4),(.q (.mv (.c (.int .i64 (.ofNat 0))))),none,0⟩])
(.seq (.seq (.reg [⟨(some 7),(.q (.mv (.t 0))),none,0⟩,
⟨(some 8),(.x (.call (.c (.fn 113 [] [])) [(.t 7)])),none,0⟩,
⟨(some 5),(.q (.mv (.t 8))),none,0⟩])
(.seq (.reg [⟨(some 9),(.q (.mv (.t 5))),none,0⟩,
⟨(some 10),(.q (.bin .neq (.p .int) (.t 9) (.c (.int .i64 (.ofNat 0))))),none,0⟩])
(.cond (.t 10) (.seq (.reg [⟨(some 11),(.q (.mv (.t 5))),none,0⟩,
⟨(some 4),(.q (.mv (.t 11))),none,0⟩])
.ret) .skip)))
(.seq (.seq (.reg [⟨(some 12),(.q (.mv (.t 1))),none,0⟩,
⟨(some 13),(.x (.call (.c (.fn 113 [] [])) [(.t 12)])),none,0⟩,
⟨(some 6),(.q (.mv (.t 13))),none,0⟩])
(.seq (.reg [⟨(some 14),(.q (.mv (.t 6))),none,0⟩,
⟨(some 15),(.q (.bin .neq (.p .int) (.t 14) (.c (.int .i64 (.ofNat 0))))),none,0⟩])
(.cond (.t 15) (.seq (.reg [⟨(some 16),(.q (.mv (.t 6))),none,0⟩,
⟨(some 4),(.q (.mv (.t 16))),none,0⟩])
.ret) .skip)))
(.seq (.seq (.reg [⟨(some 17),(.q (.mv (.t 1))),none,0⟩,
⟨(some 18),(.q (.lenSl (.t 17))),none,0⟩,
⟨(some 19),(.q (.bin .eql (.p .int) (.t 18) (.c (.int .i64 (.ofNat 0))))),none,0⟩])
(.cond (.t 19) (.seq (.reg [⟨(some 4),(.q (.mv (.c (.int .i64 (.ofNat 6))))),none,0⟩])
.ret) .skip))
(.seq (.reg [⟨(some 4),(.q (.mv (.c (.int .i64 (.ofNat 0))))),none,0⟩])
.ret)))))⟩
theorem row74 : Row Go.Proofs.Tryd.prog (74, a74) := ⟨Go.Proofs.Tryd.f74, Go.Proofs.Tryd.func74, by kernel_rfl⟩
noncomputable def a75 : AFn :=
⟨23,[(.t 4)],(.seq (.reg [⟨(some 4),(.q (.mv (.c (.bool false)))),none,0⟩])
(.seq (.seq (.reg [⟨(some 5),(.q (.mv (.t 0))),none,0⟩,
⟨(some 6),(.q (.lenSl (.t 5))),none,0⟩,
⟨(some 7),(.q (.bin .leq (.p .int) (.t 6) (.c (.int .i64 (.ofNat 2))))),none,0⟩,
⟨(some 8),(.q (.mv (.t 7))),none,0⟩,
⟨(some 9),(.q (.mv (.t 1))),(some (8,true)),0⟩,
⟨(some 10),(.q (.lenSl (.t 9))),(some (8,true)),0⟩,
⟨(some 11),(.q (.bin .leq (.p .int) (.t 10) (.c (.int .i64 (.ofNat 2))))),(some (8,true)),0⟩,
⟨(some 12),(.q (.pick (.t 8) (.t 11) (.c (.bool false)))),none,0⟩])
(.cond (.t 12) (.seq (.reg [⟨(some 13),(.q (.mv (.t 0))),none,0⟩,
⟨(some 14),(.x (.call (.c (.fn 115 [] [])) [(.t 13)])),none,0⟩,
⟨(some 15),(.q (.mv (.t 1))),none,0⟩,
⟨(some 16),(.x (.call (.c (.fn 115 [] [])) [(.t 15)])),none,0⟩,
⟨(some 17),(.x (.call (.c (.fn 114 [] [])) [(.t 14),(.t 16)])),none,0⟩,
⟨(some 18),(.q (.bin .eql (.p .int) (.t 17) (.c (.int .u64 (.ofNat 1))))),none,0⟩,
⟨(some 4),(.q (.mv (.t 18))),none,0⟩])
.ret) .skip))
(.seq (.reg [⟨(some 19),(.q (.mv (.t 0))),none,0⟩,
⟨(some 20),(.q (.mv (.t 1))),none,0⟩,
⟨(some 21),(.x (.call (.c (.fn 116 [] [])) [(.t 19),(.t 20)])),none,0⟩,
⟨(some 22),(.x (.call (.c (.fn 91 [] [])) [(.t 21)])),none,0⟩,
⟨(some 4),(.q (.mv (.t 22))),none,0⟩])
.ret)))⟩
theorem row75 : Row Go.Proofs.Tryd.prog (75, a75) := ⟨Go.Proofs.Tryd.f75, Go.Proofs.Tryd.func75, by kernel_rfl⟩
noncomputable def a81 : AFn :=
⟨15,[(.t 2)],(.seq (.reg [⟨(some 2),(.q (.mv (.c .nilsl))),none,0⟩])
(.seq (.reg [⟨(some 3),(.q (.mv (.c .nilsl))),none,0⟩])
(.seq (.block 0 (.loop (.seq (.seq (.reg [⟨(some 4),(.q (.mv (.t 0))),none,0⟩,
⟨(some 5),(.q (.bin .gtr (.p .int) (.t 4) (.c (.int .u64 (.ofNat 0))))),none,0⟩])
(.cond (.t 5) .skip (.exit 0)))
(.block 1 (.seq (.reg [⟨(some 6),(.q (.mv (.t 3))),none,0⟩,
⟨(some 7),(.q (.mv (.t 0))),none,0⟩,
⟨(some 8),(.q (.bin .rem (.p .int) (.t 7) (.c (.int .u64 (.ofNat 1000000000))))),none,0⟩,
⟨(some 9),(.q (.conv (.int .u32) (.t 8))),none,0⟩,
⟨(some 10),(.a (.bslice 41 1 1 [(.int .u32 (.ofNat 0))] [(0,(.t 9))])),none,0⟩,
⟨(some 11),(.x (.app 41 1 4 (.t 6) (.t 10))),none,0⟩,
⟨(some 3),(.q (.mv (.t 11))),none,0⟩])
(.reg [⟨(some 12),(.q (.mv (.t 0))),none,0⟩,
⟨(some 13),(.q (.bin .quo (.p .int) (.t 12) (.c (.int .u64 (.ofNat 1000000000))))),none,0⟩,
⟨(some 0),(.q (.mv (.t 13))),none,0⟩]))))))
(.seq (.reg [⟨(some 14),(.q (.mv (.t 3))),none,0⟩,
⟨(some 2),(.q (.mv (.t 14))),none,0⟩])
.ret))))⟩
theorem row81 : Row Go.Proofs.Tryd.prog (81, a81) := ⟨Go.Proofs.Tryd.f81, Go.Proofs.Tryd.func81, by kernel_rfl⟩
noncomputable def a91 : AFn :=
⟨12,[(.t 2)],(.seq (.reg [⟨(some 2),(.q (.mv (.c (.bool false)))),none,0⟩])
(.seq (.reg [⟨(some 3),(.q (.mv (.t 0))),none,0⟩,
⟨(some 4),(.q (.lenSl (.t 3))),none,0⟩,
⟨(some 5),(.q (.bin .eql (.p .int) (.t 4) (.c (.int .i64 (.ofNat 1))))),none,0⟩,
⟨(some 6),(.q (.mv (.t 5))),none,0⟩,
⟨(some 7),(.q (.mv (.t 0))),(some (6,true)),0⟩,
⟨(some 8),(.q (.iaddr (.slice 1) (.t 7) (.c (.int .i64 (.ofNat 0))))),(some (6,true)),0⟩,
⟨(some 9),(.q (.ld false 1 (.t 8))),(some (6,true)),0⟩,
⟨(some 10),(.q (.bin .eql (.p .int) (.t 9) (.c (.int .u32 (.ofNat 1))))),(some (6,true)),0⟩,
⟨(some 11),(.q (.pick (.t 6) (.t 10) (.c (.bool false)))),none,0⟩,
⟨(some 2),(.q (.mv (.t 11))),none,0⟩])
.ret))⟩
theorem row91 : Row Go.Proofs.Tryd.prog (91, a91) := ⟨Go.Proofs.Tryd.f91, Go.Proofs.Tryd.func91, by kernel_rfl⟩
noncomputable def a96 : AFn :=
⟨5,[(.t 2)],(.seq (.reg [⟨(some 2),(.q (.mv (.c .nilsl))),none,0⟩])
(.seq (.reg [⟨(some 3),(.q (.mv (.t 0))),none,0⟩,
⟨(some 4),(.x (.app 41 1 4 (.c .nilsl) (.t 3))),none,0⟩,
⟨(some 2),(.q (.mv (.t 4))),none,0⟩])
.ret))⟩
theorem row96 : Row Go.Proofs.Tryd.prog (96, a96) := ⟨Go.Proofs.Tryd.f96, Go.Proofs.Tryd.func96, by kernel_rfl⟩
noncomputable def a97 : AFn :=
⟨13,[(.t 2)],(.seq (.reg [⟨(some 1),(.a (.box 25 (.t 0))),none,0⟩,
⟨(some 2),(.q (.mv (.c (.bool false)))),none,0⟩])
(.seq (.reg [⟨(some 3),(.q (.faddr 1 (.t 1))),none,0⟩,
⟨(some 4),(.q (.ld false 1 (.t 3))),none,0⟩,
⟨(some 5),(.q (.lenSl (.t 4))),none,0⟩,
⟨(some 6),(.q (.bin .leq (.p .int) (.t 5) (.c (.int .i64 (.ofNat 1024))))),none,0⟩,
⟨(some 7),(.q (.mv (.t 6))),none,0⟩,
⟨(some 8),(.q (.faddr 2 (.t 1))),(some (7,true)),0⟩,
⟨(some 9),(.q (.ld false 1 (.t 8))),(some (7,true)),0⟩,
⟨(some 10),(.q (.lenSl (.t 9))),(some (7,true)),0⟩,
⟨(some 11),(.q (.bin .leq (.p .int) (.t 10) (.c (.int .i64 (.ofNat 1024))))),(some (7,true)),0⟩,
⟨(some 12),(.q (.pick (.t 7) (.t 11) (.c (.bool false)))),none,0⟩,
⟨(some 2),(.q (.mv (.t 12))),none,0⟩])
.ret))⟩
theorem row97 : Row Go.Proofs.Tryd.prog (97, a97) := ⟨Go.Proofs.Tryd.f97, Go.Proofs.Tryd.func97, by kernel_rfl⟩
noncomputable def a98 : AFn :=
⟨93,[(.t 4),(.t 5)],(.seq (.reg [⟨(some 4),(.q (.mv (.c .nilsl))),none,0⟩,
⟨(some 5),(.q (.mv (.c .nilsl))),none,0⟩])
(.seq (.seq (.reg [⟨(some 13),(.q (.mv (.t 0))),none,0⟩,
⟨(some 14),(.q (.mv (.t 1))),none,0⟩,
⟨(some 15),(.x (.call (.c (.fn 63 [] [])) [(.t 13),(.t 14)])),none,0⟩,
⟨(some 16),(.q (.bin .lss (.p .int) (.t 15) (.c (.int .i64 (.ofNat 0))))),none,0⟩])
(.cond (.t 16) (.seq (.reg [⟨(some 17),(.q (.mv (.t 0))),none,0⟩,
⟨(some 18),(.x (.call (.c (.fn 96 [] [])) [(.t 17)])),none,0⟩,
⟨(some 4),(.q (.mv (.c .nilsl))),none,0⟩,
⟨(some 5),(.q (.mv (.t 18))),none,0⟩])
.ret) .skip))
(.seq (.seq (.reg [⟨(some 19),(.q (.mv (.t 1))),none,0⟩,
⟨(some 20),(.q (.lenSl (.t 19))),none,0⟩,
⟨(some 21),(.q (.bin .eql (.p .int) (.t 20) (.c (.int .i64 (.ofNat 1))))),none,0⟩])
(.cond (.t 21) (.seq (.reg [⟨(some 23),(.q (.mv (.t 0))),none,0⟩,
⟨(some 24),(.q (.mv (.t 1))),none,0⟩,
⟨(some 25),(.q (.iaddr (.slice 1) (.t 24) (.c (.int .i64 (.ofNat 0))))),none,0⟩,
⟨(some 26),(.q (.ld false 1 (.t 25))),none,0⟩,
⟨(some 27),(.x (.call (.c (.fn 127 [] [])) [(.t 23),(.t 26)])),none,0⟩,
⟨(some 22),(.q (.mv (.t 27))),none,0⟩,
⟨(some 28),(.q (.extract (.t 22) 0)),none,0⟩,
⟨(some 29),(.q (.extract (.t 22) 1)),none,0⟩,
⟨(some 6),(.q (.mv (.t 28))),none,0⟩,
⟨(some 7),(.q (.mv (.t 29))),none,0⟩])
(.seq (.reg [⟨(some 30),(.q (.mv (.t 6))),none,0⟩,
⟨(some 31),(.q (.mv (.t 7))),none,0⟩,
⟨(some 32),(.q (.conv (.int .u64) (.t 31))),none,0⟩,
⟨(some 33),(.x (.call (.c (.fn 81 [] [])) [(.t 32)])),none,0⟩,
⟨(some 4),(.q (.mv (.t 30))),none,0⟩,
⟨(some 5),(.q (.mv (.t 33))),none,0⟩])
.ret)) .skip))
(.seq (.reg [⟨(some 34),(.q (.mv (.t 1))),none,0⟩,
⟨(some 35),(.q (.lenSl (.t 34))),none,0⟩,
⟨(some 8),(.q (.mv (.t 35))),none,0⟩])
(.seq (.reg [⟨(some 36),(.q (.mv (.t 1))),none,0⟩,
⟨(some 37),(.q (.mv (.t 8))),none,0⟩,
⟨(some 38),(.q (.bin .sub (.p .int) (.t 37) (.c (.int .i64 (.ofNat 1))))),none,0⟩,
⟨(some 39),(.q (.iaddr (.slice 1) (.t 36) (.t 38))),none,0⟩,
⟨(some 40),(.q (.ld false 1 (.t 39))),none,0⟩,
⟨(some 41),(.q (.conv (.int .u64) (.t 40))),none,0⟩,
⟨(some 42),(.q (.bin .add (.p .int) (.t 41) (.c (.int .u64 (.ofNat 1))))),none,0⟩,
⟨(some 43),(.q (.bin .quo (.p .int) (.c (.int .u64 (.ofNat 1000000000))) (.t 42))),none,0⟩,
⟨(some 9),(.q (.mv (.t 43))),none,0⟩])
(.seq (.reg [⟨(some 44),(.q (.mv (.t 0))),none,0⟩,
⟨(some 45),(.q (.mv (.t 9))),none,0⟩,
⟨(some 46),(.q (.mv (.t 0))),none,0⟩,
⟨(some 47),(.q (.lenSl (.t 46))),none,0⟩,
⟨(some 48),(.q (.bin .add (.p .int) (.t 47) (.c (.int .i64 (.ofNat 1))))),none,0⟩,
⟨(some 49),(.x (.call (.c (.fn 128 [] [])) [(.t 44),(.t 45),(.t 48)])),none,0⟩,
⟨(some 10),(.q (.mv (.t 49))),none,0⟩])
(.seq (.reg [⟨(some 50),(.q (.mv (.t 1))),none,0⟩,
⟨(some 51),(.q (.mv (.t 9))),none,0⟩,
⟨(some 52),(.q (.mv (.t 8))),none,0⟩,
⟨(some 53),(.x (.call (.c (.fn 128 [] [])) [(.t 50),(.t 51),(.t 52)])),none,0⟩,
⟨(some 11),(.q (.mv (.t 53))),none,0⟩])
(.seq (.reg [⟨(some 54),(.q (.mv (.t 0))),none,0⟩,
⟨(some 55),(.q (.lenSl (.t 54))),none,0⟩,
⟨(some 56),(.q (.mv (.t 8))),none,0⟩,
⟨(some 57),(.q (.bin .sub (.p .int) (.t 55) (.t 56))),none,0⟩,
⟨(some 58),(.q (.bin .add (.p .int) (.t 57) (.c (.int .i64 (.ofNat 1))))),none,0⟩,
⟨(some 59),(.a (.mkSlice 41 1 4 [(.int .u32 (.ofNat 0))] (.t 58) (.t 58))),none,0⟩,
⟨(some 4),(.q (.mv (.t 59))),none,0⟩])
(.seq (.seq (.reg [⟨(some 60),(.q (.mv (.t 0))),none,0⟩,
⟨(some 61),(.q (.lenSl (.t 60))),none,0⟩,
⟨(some 62),(.q (.mv (.t 8))),none,0⟩,
⟨(some 63),(.q (.bin .sub (.p .int) (.t 61) (.t 62))),none,0⟩,
⟨(some 12),(.q (.mv (.t 63))),none,0⟩])
(.block 0 (.loop (.seq (.seq (.reg [⟨(some 64),(.q (.mv (.t 12))),none,0⟩,
⟨(some 65),(.q (.bin .geq (.p .int) (.t 64) (.c (.int .i64 (.ofNat 0))))),none,0⟩])
(.cond (.t 65) .skip (.exit 0)))
(.seq (.block 1 (.reg [⟨(some 68),(.q (.mv (.t 4))),none,0⟩,
⟨(some 69),(.q (.mv (.t 12))),none,0⟩,
⟨(some 70),(.q (.mv (.t 10))),none,0⟩,
⟨(some 71),(.q (.mv (.t 12))),none,0⟩,
⟨(some 72),(.q (.mv (.t 12))),none,0⟩,
⟨(some 73),(.q (.mv (.t 8))),none,0⟩,
⟨(some 74),(.q (.bin .add (.p .int) (.t 72) (.t 73))),none,0⟩,
⟨(some 75),(.q (.bin .add (.p .int) (.t 74) (.c (.int .i64 (.ofNat 1))))),none,0⟩,
⟨(some 76),(.q (.slc (.slice 1) (.t 70) (some (.t 71)) (some (.t 75)) none)),none,0⟩,
⟨(some 77),(.q (.mv (.t 11))),none,0⟩,
⟨(some 78),(.x (.call (.c (.fn 129 [] [])) [(.t 76),(.t 77)])),none,0⟩,
⟨(some 79),(.q (.iaddr (.slice 1) (.t 68) (.t 69))),none,0⟩,
⟨none,(.x (.st 1 (.t 79) (.t 78))),none,0⟩]))
(.reg [⟨(some 66),(.q (.mv (.t 12))),none,0⟩,
⟨(some 67),(.q (.bin .sub (.p .int) (.t 66) (.c (.int .i64 (.ofNat 1))))),none,0⟩,
⟨(some 12),(.q (.mv (.t 67))),none,0⟩]))))))
(.seq (.reg [⟨(some 81),(.q (.mv (.t 10))),none,0⟩,
⟨(some 82),(.q (.mv (.t 8))),none,0⟩,
⟨(some 83),(.q (.slc (.slice 1) (.t 81) none (some (.t 82)) none)),none,0⟩,
⟨(some 84),(.x (.call (.c (.fn 103 [] [])) [(.t 83)])),none,0⟩,
⟨(some 85),(.q (.mv (.t 9))),none,0⟩,
⟨(some 86),(.q (.conv (.int .u32) (.t 85))),none,0⟩,
⟨(some 87),(.x (.call (.c (.fn 127 [] [])) [(.t 84),(.t 86)])),none,0⟩,
⟨(some 80),(.q (.mv (.t 87))),none,0⟩,
⟨(some 88),(.q (.extract (.t 80) 0)),none,0⟩,
⟨(some 89),(.q (.extract (.t 80) 1)),none,0⟩,
⟨(some 5),(.q (.mv (.t 88))),none,0⟩])
(.seq (.reg [⟨(some 90),(.q (.mv (.t 4))),none,0⟩,
⟨(some 91),(.x (.call (.c (.fn 103 [] [])) [(.t 90)])),none,0⟩,
⟨(some 92),(.q (.mv (.t 5))),none,0⟩,
⟨(some 4),(.q (.mv (.t 91))),none,0⟩,
⟨(some 5),(.q (.mv (.t 92))),none,0⟩])
.ret)))))))))))⟩
theorem row98 : Row Go.Proofs.Tryd.prog (98, a98) := ⟨Go.Proofs.Tryd.f98, Go.Proofs.Tryd.func98, by kernel_rfl⟩
noncomputable def a99 : AFn :=
⟨57,[(.t 4)],(.seq (.reg [⟨(some 4),(.q (.mv (.c .nilsl))),none,0⟩])
(.seq (.seq (.reg [⟨(some 10),(.q (.mv (.t 0))),none,0⟩,
⟨(some 11),(.q (.lenSl (.t 10))),none,0⟩,
⟨(some 12),(.q (.mv (.t 1))),none,0⟩,
⟨(some 13),(.q (.lenSl (.t 12))),none,0⟩,
⟨(some 14),(.q (.bin .lss (.p .int) (.t 11) (.t 13))),none,0⟩])
(.cond (.t 14) (.reg [⟨(some 15),(.q (.mv (.t 1))),none,0⟩,
⟨(some 16),(.q (.mv (.t 0))),none,0⟩,
⟨(some 0),(.q (.mv (.t 15))),none,0⟩,
⟨(some 1),(.q (.mv (.t 16))),none,0⟩]) .skip))
(.seq (.reg [⟨(some 17),(.q (.mv (.t 0))),none,0⟩,
⟨(some 18),(.q (.lenSl (.t 17))),none,0⟩,
⟨(some 19),(.q (.bin .add (.p .int) (.t 18) (.c (.int .i64 (.ofNat 1))))),none,0⟩,
⟨(some 20),(.a (.mkSlice 41 1 4 [(.int .u32 (.ofNat 0))] (.c (.int .i64 (.ofNat 0))) (.t 19))),none,0⟩,
⟨(some 5),(.q (.mv (.t 20))),none,0⟩])
(.seq (.reg [⟨(some 6),(.q (.mv (.c (.int .u32 (.ofNat 0))))),none,0⟩])
(.seq (.seq (.reg [⟨(some 21),(.q (.mv (.t 0))),none,0⟩,
⟨(some 22),(.q (.lenSl (.t 21))),none,0⟩,
⟨(some 23),(.q (.mv (.c (.int .i64 (.ofNat 0))))),none,0⟩])
(.block 0 (.loop (.seq (.reg [⟨(some 24),(.q (.bin .lss (.p .int) (.t 23) (.t 22))),none,0⟩])
(.seq (.cond (.t 24) .skip (.exit 0))
(.seq (.block 1 (.seq (.reg [⟨(some 25),(.q (.mv (.t 23))),none,0⟩,
⟨(some 26),(.q (.iaddr (.slice 1) (.t 21) (.t 23))),none,0⟩,
⟨(some 27),(.q (.ld false 1 (.t 26))),none,0⟩,
⟨(some 7),(.q (.mv (.t 25))),none,0⟩,
⟨(some 8),(.q (.mv (.t 27))),none,0⟩])
(.seq (.reg [⟨(some 28),(.q (.mv (.t 8))),none,0⟩,
⟨(some 29),(.q (.mv (.t 6))),none,0⟩,
⟨(some 30),(.q (.bin .add (.p .int) (.t 28) (.t 29))),none,0⟩,
⟨(some 9),(.q (.mv (.t 30))),none,0⟩])
(.seq (.seq (.reg [⟨(some 31),(.q (.mv (.t 7))),none,0⟩,
⟨(some 32),(.q (.mv (.t 1))),none,0⟩,
⟨(some 33),(.q (.lenSl (.t 32))),none,0⟩,
⟨(some 34),(.q (.bin .lss (.p .int) (.t 31) (.t 33))),none,0⟩])
(.cond (.t 34) (.reg [⟨(some 35),(.q (.mv (.t 9))),none,0⟩,
⟨(some 36),(.q (.mv (.t 1))),none,0⟩,
⟨(some 37),(.q (.mv (.t 7))),none,0⟩,
⟨(some 38),(.q (.iaddr (.slice 1) (.t 36) (.t 37))),none,0⟩,
⟨(some 39),(.q (.ld false 1 (.t 38))),none,0⟩,
⟨(some 40),(.q (.bin .add (.p .int) (.t 35) (.t 39))),none,0⟩,
⟨(some 9),(.q (.mv (.t 40))),none,0⟩]) .skip))
(.seq (.reg [⟨(some 6),(.q (.mv (.c (.int .u32 (.ofNat 0))))),none,0⟩])
(.seq (.seq (.reg [⟨(some 41),(.q (.mv (.t 9))),none,0⟩,
⟨(some 42),(.q (.bin .geq (.p .int) (.t 41) (.c (.int .u32 (.ofNat 1000000000))))),none,0⟩])
(.cond (.t 42) (.seq (.reg [⟨(some 43),(.q (.mv (.t 9))),none,0⟩,
⟨(some 44),(.q (.bin .sub (.p .int) (.t 43) (.c (.int .u32 (.ofNat 1000000000))))),none,0⟩,
⟨(some 9),(.q (.mv (.t 44))),none,0⟩])
(.reg [⟨(some 6),(.q (.mv (.c (.int .u32 (.ofNat 1))))),none,0⟩])) .skip))
(.reg [⟨(some 45),(.q (.mv (.t 5))),none,0⟩,
⟨(some 46),(.q (.mv (.t 9))),none,0⟩,
⟨(some 47),(.a (.bslice 41 1 1 [(.int .u32 (.ofNat 0))] [(0,(.t 46))])),none,0⟩,
⟨(some 48),(.x (.app 41 1 4 (.t 45) (.t 47))),none,0⟩,
⟨(some 5),(.q (.mv (.t 48))),none,0⟩])))))))
(.reg [⟨(some 49),(.q (.bin .add (.p .int) (.t 23) (.c (.int .i64 (.ofNat 1))))),none,0⟩,
⟨(some 23),(.q (.mv (.t 49))),none,0⟩])))))))
(.seq (.seq (.reg [⟨(some 50),(.q (.mv (.t 6))),none,0⟩,
⟨(some 51),(.q (.bin .gtr (.p .int) (.t 50) (.c (.int .u32 (.ofNat 0))))),none,0⟩])
(.cond (.t 51) (.reg [⟨(some 52),(.q (.mv (.t 5))),none,0⟩,
⟨(some 53),(.q (.mv (.t 6))),none,0⟩,
⟨(some 54),(.a (.bslice 41 1 1 [(.int .u32 (.ofNat 0))] [(0,(.t 53))])),none,0⟩,
⟨(some 55),(.x (.app 41 1 4 (.t 52) (.t 54))),none,0⟩,
⟨(some 5),(.q (.mv (.t 55))),none,0⟩]) .skip))
(.seq (.reg [⟨(some 56),(.q (.mv (.t 5))),none,0⟩,
⟨(some 4),(.q (.mv (.t 56))),none,0⟩])
.ret)))))))⟩
theorem row99 : Row Go.Proofs.Tryd.prog (99, a99) := ⟨Go.Proofs.Tryd.f99, Go.Proofs.Tryd.func99, by kernel_rfl⟩
noncomputable def a100 : AFn :=
⟨47,[(.t 4)],(.seq (.reg [⟨(some 4),(.q (.mv (.c .nilsl))),none,0⟩])
(.seq (.reg [⟨(some 10),(.q (.mv (.t 0))),none,0⟩,
⟨(some 11),(.q (.lenSl (.t 10))),none,0⟩,
⟨(some 12),(.a (.mkSlice 41 1 4 [(.int .u32 (.ofNat 0))] (.t 11) (.t 11))),none,0⟩,
⟨(some 5),(.q (.mv (.t 12))),none,0⟩])
(.seq (.reg [⟨(some 6),(.q (.mv (.c (.int .i64 (.ofNat 0))))),none,0⟩])
(.seq (.seq (.reg [⟨(some 13),(.q (.mv (.t 0))),none,0⟩,
⟨(some 14),(.q (.lenSl (.t 13))),none,0⟩,
⟨(some 15),(.q (.mv (.c (.int .i64 (.ofNat 0))))),none,0⟩])
(.block 0 (.loop (.seq (.reg [⟨(some 16),(.q (.bin .lss (.p .int) (.t 15) (.t 14))),none,0⟩])
(.seq (.cond (.t 16) .skip (.exit 0))
(.seq (.block 1 (.seq (.reg [⟨(some 17),(.q (.mv (.t 15))),none,0⟩,
⟨(some 18),(.q (.iaddr (.slice 1) (.t 13) (.t 15))),none,0⟩,
⟨(some 19),(.q (.ld false 1 (.t 18))),none,0⟩,
⟨(some 7),(.q (.mv (.t 17))),none,0⟩,
⟨(some 8),(.q (.mv (.t 19))),none,0⟩])
(.seq (.reg [⟨(some 20),(.q (.mv (.t 8))),none,0⟩,
⟨(some 21),(.q (.conv (.int .i64) (.t 20))),none,0⟩,
⟨(some 22),(.q (.mv (.t 6))),none,0⟩,
⟨(some 23),(.q (.bin .sub (.p .int) (.t 21) (.t 22))),none,0⟩,
⟨(some 9),(.q (.mv (.t 23))),none,0⟩])
(.seq (.seq (.reg [⟨(some 24),(.q (.mv (.t 7))),none,0⟩,
⟨(some 25),(.q (.mv (.t 1))),none,0⟩,
⟨(some 26),(.q (.lenSl (.t 25))),none,0⟩,
⟨(some 27),(.q (.bin .lss (.p .int) (.t 24) (.t 26))),none,0⟩])
(.cond (.t 27) (.reg [⟨(some 28),(.q (.mv (.t 9))),none,0⟩,
⟨(some 29),(.q (.mv (.t 1))),none,0⟩,
⟨(some 30),(.q (.mv (.t 7))),none,0⟩,
⟨(some 31),(.q (.iaddr (.slice 1) (.t 29) (.t 30))),none,0⟩,
⟨(some 32),(.q (.ld false 1 (.t 31))),none,0⟩,
⟨(some 33),(.q (.conv (.int .i64) (.t 32))),none,0⟩,
⟨(some 34),(.q (.bin .sub (.p .int) (.t 28) (.t 33))),none,0⟩,
⟨(some 9),(.q (.mv (.t 34))),none,0⟩]) .skip))
(.seq (.reg [⟨(some 6),(.q (.mv (.c (.int .i64 (.ofNat 0))))),none,0⟩])
(.seq (.seq (.reg [⟨(some 35),(.q (.mv (.t 9))),none,0⟩,
⟨(some 36),(.q (.bin .lss (.p .int) (.t 35) (.c (.int .i64 (.ofNat 0))))),none,0⟩])
(.cond (.t 36) (.seq (.reg [⟨(some 37),(.q (.mv (.t 9))),none,0⟩,
⟨(some 38),(.q (.bin .add (.p .int) (.t 37) (.c (.int .i64 (.ofNat 1000000000))))),none,0⟩,
⟨(some 9),(.q (.mv (.t 38))),none,0⟩])
(.reg [⟨(some 6),(.q (.mv (.c (.int .i64 (.ofNat 1))))),none,0⟩])) .skip))
(.reg [⟨(some 39),(.q (.mv (.t 5))),none,0⟩,
⟨(some 40),(.q (.mv (.t 7))),none,0⟩,
⟨(some 41),(.q (.mv (.t 9))),none,0⟩,
⟨(some 42),(.q (.conv (.int .u32) (.t 41))),none,0⟩,
⟨(some 43),(.q (.iaddr (.slice 1) (.t 39) (.t 40))),none,0⟩,
⟨none,(.x (.st 1 (.t 43) (.t 42))),none,0⟩])))))))
(.reg [⟨(some 44),(.q (.bin .add (.p .int) (.t 15) (.c (.int .i64 (.ofNat 1))))),none,0⟩,
⟨(some 15),(.q (.mv (.t 44))),none,0⟩])))))))
(.seq (.reg [⟨(some 45),(.q (.mv (.t 5))),none,0⟩,
⟨(some 46),(.x (.call (.c (.fn 103 [] [])) [(.t 45)])),none,0⟩,
⟨(some 4),(.q (.mv (.t 46))),none,0⟩])
.ret)))))⟩
theorem row100 : Row Go.Proofs.Tryd.prog (100, a100) := ⟨Go.Proofs.Tryd.f100, Go.Proofs.Tryd.func100, by kernel_rfl⟩
end Go.Ev.Gl
