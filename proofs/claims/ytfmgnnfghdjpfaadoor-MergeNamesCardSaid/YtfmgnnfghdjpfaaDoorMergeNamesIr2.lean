/- The functions that MergeNames reaches, as data of the evaluator (part 2), written by program; each is shown to be the compiler's result on the loaded function. -/
import Derived.Test.YtfmgnnfghdjpfaaDoorProg
import Derived.Test.YtfmgnnfghdjpfaaDoorEv7
import Derived.KernelRfl
namespace Go.Proofs.YtfmgnnfghdjpfaaDoor.mergeNames
open Go.Ev
set_option maxRecDepth 100000
noncomputable def a81 : AFn :=
⟨9,[(.t 4)],(.seq (.reg [⟨(some 4),(.q (.mv (.c (.bool false)))),none,0⟩])
(.seq (.reg [⟨(some 5),(.q (.mv (.t 0))),none,0⟩,
⟨(some 6),(.q (.mv (.t 1))),none,0⟩,
⟨(some 7),(.x (.call (.c (.fn 95 [] [])) [(.t 5),(.t 6)])),none,0⟩,
⟨(some 8),(.q (.bin .geq (.p .int) (.t 7) (.c (.int .i64 (.ofNat 0))))),none,0⟩,
⟨(some 4),(.q (.mv (.t 8))),none,0⟩])
.ret))⟩
theorem row81 : Row Tryd.prog (81, a81) := ⟨Tryd.f81, Tryd.func81, by kernel_rfl⟩
noncomputable def a82 : AFn :=
⟨21,[(.t 2)],(.seq (.reg [⟨(some 2),(.q (.mv (.c (.bool false)))),none,0⟩])
(.seq (.seq (.reg [⟨(some 4),(.q (.mv (.t 0))),none,0⟩,
⟨(some 5),(.q (.lenSl (.t 4))),none,0⟩,
⟨(some 6),(.q (.bin .sub (.p .int) (.t 5) (.c (.int .i64 (.ofNat 1))))),none,0⟩,
⟨(some 3),(.q (.mv (.t 6))),none,0⟩])
(.block 0 (.loop (.seq (.seq (.reg [⟨(some 7),(.q (.mv (.t 3))),none,0⟩,
⟨(some 8),(.q (.bin .gtr (.p .int) (.t 7) (.c (.int .i64 (.ofNat 0))))),none,0⟩])
(.cond (.t 8) .skip (.exit 0)))
(.seq (.block 1 (.seq (.drw [⟨(some 11),(.q (.mv (.t 0))),none,0⟩,
⟨(some 12),(.q (.mv (.t 3))),none,0⟩,
⟨(some 13),(.q (.iaddr (.slice 1) (.t 11) (.t 12))),none,3⟩,
⟨(some 14),(.q (.ld false 1 (.t 13))),none,7⟩,
⟨(some 15),(.q (.mv (.t 0))),none,0⟩,
⟨(some 16),(.q (.mv (.t 3))),none,0⟩,
⟨(some 17),(.q (.bin .sub (.p .int) (.t 16) (.c (.int .i64 (.ofNat 1))))),none,32⟩,
⟨(some 18),(.q (.iaddr (.slice 1) (.t 15) (.t 17))),none,112⟩,
⟨(some 19),(.q (.ld false 1 (.t 18))),none,240⟩,
⟨(some 20),(.x (.call (.c (.fn 96 [] [])) [(.t 14),(.t 19)])),none,511⟩])
(.cond (.t 20) (.seq (.reg [⟨(some 2),(.q (.mv (.c (.bool false)))),none,0⟩])
.ret) .skip)))
(.reg [⟨(some 9),(.q (.mv (.t 3))),none,0⟩,
⟨(some 10),(.q (.bin .sub (.p .int) (.t 9) (.c (.int .i64 (.ofNat 1))))),none,0⟩,
⟨(some 3),(.q (.mv (.t 10))),none,0⟩]))))))
(.seq (.reg [⟨(some 2),(.q (.mv (.c (.bool true)))),none,0⟩])
.ret)))⟩
theorem row82 : Row Tryd.prog (82, a82) := ⟨Tryd.f82, Tryd.func82, by kernel_rfl⟩
noncomputable def a83 : AFn :=
⟨21,[(.t 6)],(.seq (.reg [⟨(some 6),(.q (.mv (.c .nilsl))),none,0⟩])
(.seq (.reg [⟨(some 8),(.q (.mv (.t 1))),none,0⟩,
⟨(some 9),(.q (.conv (.int .u64) (.t 8))),none,0⟩,
⟨(some 7),(.q (.mv (.t 9))),none,0⟩])
(.seq (.seq (.reg [⟨(some 10),(.q (.mv (.t 1))),none,0⟩,
⟨(some 11),(.q (.bin .lss (.p .int) (.t 10) (.c (.int .i64 (.ofNat 0))))),none,0⟩])
(.cond (.t 11) (.seq (.reg [⟨(some 12),(.q (.mv (.t 0))),none,0⟩,
⟨(some 13),(.a (.bslice 5 1 1 [(.int .u8 (.ofNat 0))] [(0,(.c (.int .u8 (.ofNat 45))))])),none,0⟩,
⟨(some 14),(.x (.app 5 1 1 (.t 12) (.t 13))),none,0⟩,
⟨(some 0),(.q (.mv (.t 14))),none,0⟩])
(.reg [⟨(some 15),(.q (.mv (.t 7))),none,0⟩,
⟨(some 16),(.q (.un .neg (.t 15))),none,0⟩,
⟨(some 7),(.q (.mv (.t 16))),none,0⟩])) .skip))
(.seq (.reg [⟨(some 17),(.q (.mv (.t 0))),none,0⟩,
⟨(some 18),(.q (.mv (.t 7))),none,0⟩,
⟨(some 19),(.q (.mv (.t 2))),none,0⟩,
⟨(some 20),(.x (.call (.c (.fn 97 [] [])) [(.t 17),(.t 18),(.t 19)])),none,0⟩,
⟨(some 6),(.q (.mv (.t 20))),none,0⟩])
.ret))))⟩
theorem row83 : Row Tryd.prog (83, a83) := ⟨Tryd.f83, Tryd.func83, by kernel_rfl⟩
noncomputable def a84 : AFn :=
⟨53,[],(.seq (.reg [⟨(some 10),(.q (.mv (.t 1))),none,0⟩,
⟨(some 11),(.q (.bin .add (.p .int) (.t 10) (.c (.int .i64 (.ofNat 1))))),none,0⟩,
⟨(some 8),(.q (.mv (.t 11))),none,0⟩])
(.block 0 (.loop (.seq (.seq (.reg [⟨(some 12),(.q (.mv (.t 8))),none,0⟩,
⟨(some 13),(.q (.mv (.t 2))),none,0⟩,
⟨(some 14),(.q (.bin .lss (.p .int) (.t 12) (.t 13))),none,0⟩])
(.cond (.t 14) .skip (.exit 0)))
(.seq (.block 1 (.seq (.reg [⟨(some 17),(.q (.mv (.t 8))),none,0⟩,
⟨(some 9),(.q (.mv (.t 17))),none,0⟩])
(.block 2 (.loop (.seq (.seq (.drw [⟨(some 18),(.q (.mv (.t 9))),none,0⟩,
⟨(some 19),(.q (.mv (.t 1))),none,0⟩,
⟨(some 20),(.q (.bin .gtr (.p .int) (.t 18) (.t 19))),none,3⟩,
⟨(some 21),(.q (.mv (.t 20))),none,7⟩,
⟨(some 22),(.q (.mv (.t 3))),(some (21,true)),15⟩,
⟨(some 23),(.q (.mv (.t 0))),(some (21,true)),15⟩,
⟨(some 24),(.q (.mv (.t 9))),(some (21,true)),15⟩,
⟨(some 25),(.q (.iaddr (.slice 1) (.t 23) (.t 24))),(some (21,true)),111⟩,
⟨(some 26),(.q (.ld false 1 (.t 25))),(some (21,true)),239⟩,
⟨(some 27),(.q (.mv (.t 0))),(some (21,true)),15⟩,
⟨(some 28),(.q (.mv (.t 9))),(some (21,true)),15⟩,
⟨(some 29),(.q (.bin .sub (.p .int) (.t 28) (.c (.int .i64 (.ofNat 1))))),(some (21,true)),1039⟩,
⟨(some 30),(.q (.iaddr (.slice 1) (.t 27) (.t 29))),(some (21,true)),3599⟩,
⟨(some 31),(.q (.ld false 1 (.t 30))),(some (21,true)),7695⟩,
⟨(some 32),(.x (.call (.t 22) [(.t 26),(.t 31)])),(some (21,true)),16383⟩,
⟨(some 33),(.q (.bin .lss (.p .int) (.t 32) (.c (.int .i64 (.ofNat 0))))),(some (21,true)),32767⟩,
⟨(some 34),(.q (.pick (.t 21) (.t 33) (.c (.bool false)))),none,65535⟩])
(.cond (.t 34) .skip (.exit 2)))
(.seq (.block 3 (.drw [⟨(some 37),(.q (.mv (.t 0))),none,0⟩,
⟨(some 38),(.q (.mv (.t 9))),none,0⟩,
⟨(some 39),(.q (.mv (.t 0))),none,0⟩,
⟨(some 40),(.q (.mv (.t 9))),none,0⟩,
⟨(some 41),(.q (.bin .sub (.p .int) (.t 40) (.c (.int .i64 (.ofNat 1))))),none,8⟩,
⟨(some 42),(.q (.mv (.t 0))),none,0⟩,
⟨(some 43),(.q (.mv (.t 9))),none,0⟩,
⟨(some 44),(.q (.bin .sub (.p .int) (.t 43) (.c (.int .i64 (.ofNat 1))))),none,64⟩,
⟨(some 45),(.q (.iaddr (.slice 1) (.t 42) (.t 44))),none,224⟩,
⟨(some 46),(.q (.ld false 1 (.t 45))),none,480⟩,
⟨(some 47),(.q (.mv (.t 0))),none,0⟩,
⟨(some 48),(.q (.mv (.t 9))),none,0⟩,
⟨(some 49),(.q (.iaddr (.slice 1) (.t 47) (.t 48))),none,3072⟩,
⟨(some 50),(.q (.ld false 1 (.t 49))),none,7168⟩,
⟨(some 51),(.q (.iaddr (.slice 1) (.t 37) (.t 38))),none,16355⟩,
⟨none,(.x (.st 1 (.t 51) (.t 46))),none,32739⟩,
⟨(some 52),(.q (.iaddr (.slice 1) (.t 39) (.t 41))),none,65535⟩,
⟨none,(.x (.st 1 (.t 52) (.t 50))),none,131071⟩]))
(.reg [⟨(some 35),(.q (.mv (.t 9))),none,0⟩,
⟨(some 36),(.q (.bin .sub (.p .int) (.t 35) (.c (.int .i64 (.ofNat 1))))),none,0⟩,
⟨(some 9),(.q (.mv (.t 36))),none,0⟩])))))))
(.reg [⟨(some 15),(.q (.mv (.t 8))),none,0⟩,
⟨(some 16),(.q (.bin .add (.p .int) (.t 15) (.c (.int .i64 (.ofNat 1))))),none,0⟩,
⟨(some 8),(.q (.mv (.t 16))),none,0⟩]))))))⟩
theorem row84 : Row Tryd.prog (84, a84) := ⟨Tryd.f84, Tryd.func84, by kernel_rfl⟩
noncomputable def a85 : AFn :=
⟨60,[],(.seq (.reg [⟨(some 13),(.q (.mv (.t 1))),none,0⟩,
⟨(some 8),(.q (.mv (.t 13))),none,0⟩])
(.seq (.reg [⟨(some 9),(.q (.mv (.c (.int .i64 (.ofNat 0))))),none,0⟩])
(.seq (.reg [⟨(some 14),(.q (.mv (.t 2))),none,0⟩,
⟨(some 15),(.q (.mv (.t 1))),none,0⟩,
⟨(some 16),(.q (.bin .sub (.p .int) (.t 14) (.t 15))),none,0⟩,
⟨(some 10),(.q (.mv (.t 16))),none,0⟩])
(.seq (.seq (.reg [⟨(some 17),(.q (.mv (.t 10))),none,0⟩,
⟨(some 18),(.q (.bin .sub (.p .int) (.t 17) (.c (.int .i64 (.ofNat 1))))),none,0⟩,
⟨(some 19),(.q (.bin .quo (.p .int) (.t 18) (.c (.int .i64 (.ofNat 2))))),none,0⟩,
⟨(some 11),(.q (.mv (.t 19))),none,0⟩])
(.block 0 (.loop (.seq (.seq (.reg [⟨(some 20),(.q (.mv (.t 11))),none,0⟩,
⟨(some 21),(.q (.bin .geq (.p .int) (.t 20) (.c (.int .i64 (.ofNat 0))))),none,0⟩])
(.cond (.t 21) .skip (.exit 0)))
(.seq (.block 1 (.reg [⟨(some 24),(.q (.mv (.t 0))),none,0⟩,
⟨(some 25),(.q (.mv (.t 11))),none,0⟩,
⟨(some 26),(.q (.mv (.t 10))),none,0⟩,
⟨(some 27),(.q (.mv (.t 8))),none,0⟩,
⟨(some 28),(.q (.mv (.t 3))),none,0⟩,
⟨(some 29),(.x (.call (.c (.fn 98 [] [])) [(.t 24),(.t 25),(.t 26),(.t 27),(.t 28)])),none,0⟩]))
(.reg [⟨(some 22),(.q (.mv (.t 11))),none,0⟩,
⟨(some 23),(.q (.bin .sub (.p .int) (.t 22) (.c (.int .i64 (.ofNat 1))))),none,0⟩,
⟨(some 11),(.q (.mv (.t 23))),none,0⟩]))))))
(.seq (.reg [⟨(some 30),(.q (.mv (.t 10))),none,0⟩,
⟨(some 31),(.q (.bin .sub (.p .int) (.t 30) (.c (.int .i64 (.ofNat 1))))),none,0⟩,
⟨(some 12),(.q (.mv (.t 31))),none,0⟩])
(.block 2 (.loop (.seq (.seq (.reg [⟨(some 32),(.q (.mv (.t 12))),none,0⟩,
⟨(some 33),(.q (.bin .geq (.p .int) (.t 32) (.c (.int .i64 (.ofNat 0))))),none,0⟩])
(.cond (.t 33) .skip (.exit 2)))
(.seq (.block 3 (.seq (.drw [⟨(some 36),(.q (.mv (.t 0))),none,0⟩,
⟨(some 37),(.q (.mv (.t 8))),none,0⟩,
⟨(some 38),(.q (.mv (.t 0))),none,0⟩,
⟨(some 39),(.q (.mv (.t 8))),none,0⟩,
⟨(some 40),(.q (.mv (.t 12))),none,0⟩,
⟨(some 41),(.q (.bin .add (.p .int) (.t 39) (.t 40))),none,24⟩,
⟨(some 42),(.q (.mv (.t 0))),none,0⟩,
⟨(some 43),(.q (.mv (.t 8))),none,0⟩,
⟨(some 44),(.q (.mv (.t 12))),none,0⟩,
⟨(some 45),(.q (.bin .add (.p .int) (.t 43) (.t 44))),none,384⟩,
⟨(some 46),(.q (.iaddr (.slice 1) (.t 42) (.t 45))),none,960⟩,
⟨(some 47),(.q (.ld false 1 (.t 46))),none,1984⟩,
⟨(some 48),(.q (.mv (.t 0))),none,0⟩,
⟨(some 49),(.q (.mv (.t 8))),none,0⟩,
⟨(some 50),(.q (.iaddr (.slice 1) (.t 48) (.t 49))),none,12288⟩,
⟨(some 51),(.q (.ld false 1 (.t 50))),none,28672⟩,
⟨(some 52),(.q (.iaddr (.slice 1) (.t 36) (.t 37))),none,65475⟩,
⟨none,(.x (.st 1 (.t 52) (.t 47))),none,131011⟩,
⟨(some 53),(.q (.iaddr (.slice 1) (.t 38) (.t 41))),none,262143⟩,
⟨none,(.x (.st 1 (.t 53) (.t 51))),none,524287⟩])
(.reg [⟨(some 54),(.q (.mv (.t 0))),none,0⟩,
⟨(some 55),(.q (.mv (.t 9))),none,0⟩,
⟨(some 56),(.q (.mv (.t 12))),none,0⟩,
⟨(some 57),(.q (.mv (.t 8))),none,0⟩,
⟨(some 58),(.q (.mv (.t 3))),none,0⟩,
⟨(some 59),(.x (.call (.c (.fn 98 [] [])) [(.t 54),(.t 55),(.t 56),(.t 57),(.t 58)])),none,0⟩])))
(.reg [⟨(some 34),(.q (.mv (.t 12))),none,0⟩,
⟨(some 35),(.q (.bin .sub (.p .int) (.t 34) (.c (.int .i64 (.ofNat 1))))),none,0⟩,
⟨(some 12),(.q (.mv (.t 35))),none,0⟩]))))))))))⟩
theorem row85 : Row Tryd.prog (85, a85) := ⟨Tryd.f85, Tryd.func85, by kernel_rfl⟩
noncomputable def a86 : AFn :=
⟨67,[],(.seq (.reg [⟨(some 13),(.q (.mv (.t 2))),none,0⟩,
⟨(some 14),(.q (.mv (.t 1))),none,0⟩,
⟨(some 15),(.q (.bin .sub (.p .int) (.t 13) (.t 14))),none,0⟩,
⟨(some 8),(.q (.mv (.t 15))),none,0⟩])
(.seq (.reg [⟨(some 16),(.q (.mv (.t 8))),none,0⟩,
⟨(some 17),(.q (.bin .geq (.p .int) (.t 16) (.c (.int .i64 (.ofNat 8))))),none,0⟩])
(.cond (.t 17) (.seq (.reg [⟨(some 18),(.q (.mv (.t 8))),none,0⟩,
⟨(some 19),(.q (.conv (.int .u64) (.t 18))),none,0⟩,
⟨(some 9),(.a (.alloc 140 [(.int .u64 (.ofNat 0))])),none,0⟩,
⟨none,(.x (.st 1 (.t 9) (.t 19))),none,0⟩])
(.seq (.reg [⟨(some 20),(.q (.mv (.t 8))),none,0⟩,
⟨(some 21),(.x (.call (.c (.fn 99 [] [])) [(.t 20)])),none,0⟩,
⟨(some 10),(.q (.mv (.t 21))),none,0⟩])
(.seq (.reg [⟨(some 22),(.q (.mv (.t 1))),none,0⟩,
⟨(some 23),(.q (.mv (.t 8))),none,0⟩,
⟨(some 24),(.q (.bin .quo (.p .int) (.t 23) (.c (.int .i64 (.ofNat 4))))),none,0⟩,
⟨(some 25),(.q (.bin .mul (.p .int) (.t 24) (.c (.int .i64 (.ofNat 2))))),none,0⟩,
⟨(some 26),(.q (.bin .add (.p .int) (.t 22) (.t 25))),none,0⟩,
⟨(some 27),(.q (.bin .sub (.p .int) (.t 26) (.c (.int .i64 (.ofNat 1))))),none,0⟩,
⟨(some 11),(.q (.mv (.t 27))),none,0⟩])
(.block 0 (.loop (.seq (.seq (.reg [⟨(some 28),(.q (.mv (.t 11))),none,0⟩,
⟨(some 29),(.q (.mv (.t 1))),none,0⟩,
⟨(some 30),(.q (.mv (.t 8))),none,0⟩,
⟨(some 31),(.q (.bin .quo (.p .int) (.t 30) (.c (.int .i64 (.ofNat 4))))),none,0⟩,
⟨(some 32),(.q (.bin .mul (.p .int) (.t 31) (.c (.int .i64 (.ofNat 2))))),none,0⟩,
⟨(some 33),(.q (.bin .add (.p .int) (.t 29) (.t 32))),none,0⟩,
⟨(some 34),(.q (.bin .add (.p .int) (.t 33) (.c (.int .i64 (.ofNat 1))))),none,0⟩,
⟨(some 35),(.q (.bin .leq (.p .int) (.t 28) (.t 34))),none,0⟩])
(.cond (.t 35) .skip (.exit 0)))
(.seq (.block 1 (.seq (.reg [⟨(some 38),(.x (.call (.c (.fn 100 [] [])) [(.t 9)])),none,0⟩,
⟨(some 39),(.q (.mv (.t 10))),none,0⟩,
⟨(some 40),(.q (.bin .sub (.p .int) (.t 39) (.c (.int .u64 (.ofNat 1))))),none,0⟩,
⟨(some 41),(.q (.bin .and (.p .int) (.t 38) (.t 40))),none,0⟩,
⟨(some 42),(.q (.conv (.int .i64) (.t 41))),none,0⟩,
⟨(some 12),(.q (.mv (.t 42))),none,0⟩])
(.seq (.seq (.reg [⟨(some 43),(.q (.mv (.t 12))),none,0⟩,
⟨(some 44),(.q (.mv (.t 8))),none,0⟩,
⟨(some 45),(.q (.bin .geq (.p .int) (.t 43) (.t 44))),none,0⟩])
(.cond (.t 45) (.reg [⟨(some 46),(.q (.mv (.t 12))),none,0⟩,
⟨(some 47),(.q (.mv (.t 8))),none,0⟩,
⟨(some 48),(.q (.bin .sub (.p .int) (.t 46) (.t 47))),none,0⟩,
⟨(some 12),(.q (.mv (.t 48))),none,0⟩]) .skip))
(.drw [⟨(some 49),(.q (.mv (.t 0))),none,0⟩,
⟨(some 50),(.q (.mv (.t 11))),none,0⟩,
⟨(some 51),(.q (.mv (.t 0))),none,0⟩,
⟨(some 52),(.q (.mv (.t 1))),none,0⟩,
⟨(some 53),(.q (.mv (.t 12))),none,0⟩,
⟨(some 54),(.q (.bin .add (.p .int) (.t 52) (.t 53))),none,24⟩,
⟨(some 55),(.q (.mv (.t 0))),none,0⟩,
⟨(some 56),(.q (.mv (.t 1))),none,0⟩,
⟨(some 57),(.q (.mv (.t 12))),none,0⟩,
⟨(some 58),(.q (.bin .add (.p .int) (.t 56) (.t 57))),none,384⟩,
⟨(some 59),(.q (.iaddr (.slice 1) (.t 55) (.t 58))),none,960⟩,
⟨(some 60),(.q (.ld false 1 (.t 59))),none,1984⟩,
⟨(some 61),(.q (.mv (.t 0))),none,0⟩,
⟨(some 62),(.q (.mv (.t 11))),none,0⟩,
⟨(some 63),(.q (.iaddr (.slice 1) (.t 61) (.t 62))),none,12288⟩,
⟨(some 64),(.q (.ld false 1 (.t 63))),none,28672⟩,
⟨(some 65),(.q (.iaddr (.slice 1) (.t 49) (.t 50))),none,65475⟩,
⟨none,(.x (.st 1 (.t 65) (.t 60))),none,131011⟩,
⟨(some 66),(.q (.iaddr (.slice 1) (.t 51) (.t 54))),none,262143⟩,
⟨none,(.x (.st 1 (.t 66) (.t 64))),none,524287⟩]))))
(.reg [⟨(some 36),(.q (.mv (.t 11))),none,0⟩,
⟨(some 37),(.q (.bin .add (.p .int) (.t 36) (.c (.int .i64 (.ofNat 1))))),none,0⟩,
⟨(some 11),(.q (.mv (.t 37))),none,0⟩])))))))) .skip)))⟩
theorem row86 : Row Tryd.prog (86, a86) := ⟨Tryd.f86, Tryd.func86, by kernel_rfl⟩
noncomputable def a87 : AFn :=
⟨63,[(.t 8),(.t 9)],(.seq (.reg [⟨(some 8),(.q (.mv (.c (.int .i64 (.ofNat 0))))),none,0⟩,
⟨(some 9),(.q (.mv (.c (.int .i64 (.ofNat 0))))),none,0⟩])
(.seq (.reg [⟨(some 15),(.q (.mv (.t 2))),none,0⟩,
⟨(some 16),(.q (.mv (.t 1))),none,0⟩,
⟨(some 17),(.q (.bin .sub (.p .int) (.t 15) (.t 16))),none,0⟩,
⟨(some 10),(.q (.mv (.t 17))),none,0⟩])
(.seq (.reg [⟨(some 11),(.a (.alloc 3 [(.int .i64 (.ofNat 0))])),none,0⟩])
(.seq (.reg [⟨(some 18),(.q (.mv (.t 1))),none,0⟩,
⟨(some 19),(.q (.mv (.t 10))),none,0⟩,
⟨(some 20),(.q (.bin .quo (.p .int) (.t 19) (.c (.int .i64 (.ofNat 4))))),none,0⟩,
⟨(some 21),(.q (.bin .mul (.p .int) (.t 20) (.c (.int .i64 (.ofNat 1))))),none,0⟩,
⟨(some 22),(.q (.bin .add (.p .int) (.t 18) (.t 21))),none,0⟩,
⟨(some 12),(.q (.mv (.t 22))),none,0⟩])
(.seq (.reg [⟨(some 23),(.q (.mv (.t 1))),none,0⟩,
⟨(some 24),(.q (.mv (.t 10))),none,0⟩,
⟨(some 25),(.q (.bin .quo (.p .int) (.t 24) (.c (.int .i64 (.ofNat 4))))),none,0⟩,
⟨(some 26),(.q (.bin .mul (.p .int) (.t 25) (.c (.int .i64 (.ofNat 2))))),none,0⟩,
⟨(some 27),(.q (.bin .add (.p .int) (.t 23) (.t 26))),none,0⟩,
⟨(some 13),(.q (.mv (.t 27))),none,0⟩])
(.seq (.reg [⟨(some 28),(.q (.mv (.t 1))),none,0⟩,
⟨(some 29),(.q (.mv (.t 10))),none,0⟩,
⟨(some 30),(.q (.bin .quo (.p .int) (.t 29) (.c (.int .i64 (.ofNat 4))))),none,0⟩,
⟨(some 31),(.q (.bin .mul (.p .int) (.t 30) (.c (.int .i64 (.ofNat 3))))),none,0⟩,
⟨(some 32),(.q (.bin .add (.p .int) (.t 28) (.t 31))),none,0⟩,
⟨(some 14),(.q (.mv (.t 32))),none,0⟩])
(.seq (.seq (.reg [⟨(some 33),(.q (.mv (.t 10))),none,0⟩,
⟨(some 34),(.q (.bin .geq (.p .int) (.t 33) (.c (.int .i64 (.ofNat 8))))),none,0⟩])
(.cond (.t 34) (.seq (.seq (.reg [⟨(some 35),(.q (.mv (.t 10))),none,0⟩,
⟨(some 36),(.q (.bin .geq (.p .int) (.t 35) (.c (.int .i64 (.ofNat 50))))),none,0⟩])
(.cond (.t 36) (.seq (.reg [⟨(some 37),(.q (.mv (.t 0))),none,0⟩,
⟨(some 38),(.q (.mv (.t 12))),none,0⟩,
⟨(some 39),(.q (.mv (.t 3))),none,0⟩,
⟨(some 40),(.x (.call (.c (.fn 101 [] [])) [(.t 37),(.t 38),(.t 11),(.t 39)])),none,0⟩,
⟨(some 12),(.q (.mv (.t 40))),none,0⟩])
(.seq (.reg [⟨(some 41),(.q (.mv (.t 0))),none,0⟩,
⟨(some 42),(.q (.mv (.t 13))),none,0⟩,
⟨(some 43),(.q (.mv (.t 3))),none,0⟩,
⟨(some 44),(.x (.call (.c (.fn 101 [] [])) [(.t 41),(.t 42),(.t 11),(.t 43)])),none,0⟩,
⟨(some 13),(.q (.mv (.t 44))),none,0⟩])
(.reg [⟨(some 45),(.q (.mv (.t 0))),none,0⟩,
⟨(some 46),(.q (.mv (.t 14))),none,0⟩,
⟨(some 47),(.q (.mv (.t 3))),none,0⟩,
⟨(some 48),(.x (.call (.c (.fn 101 [] [])) [(.t 45),(.t 46),(.t 11),(.t 47)])),none,0⟩,
⟨(some 14),(.q (.mv (.t 48))),none,0⟩]))) .skip))
(.reg [⟨(some 49),(.q (.mv (.t 0))),none,0⟩,
⟨(some 50),(.q (.mv (.t 12))),none,0⟩,
⟨(some 51),(.q (.mv (.t 13))),none,0⟩,
⟨(some 52),(.q (.mv (.t 14))),none,0⟩,
⟨(some 53),(.q (.mv (.t 3))),none,0⟩,
⟨(some 54),(.x (.call (.c (.fn 102 [] [])) [(.t 49),(.t 50),(.t 51),(.t 52),(.t 11),(.t 53)])),none,0⟩,
⟨(some 13),(.q (.mv (.t 54))),none,0⟩])) .skip))
(.seq (.reg [⟨(some 55),(.q (.ld false 1 (.t 11))),none,0⟩])
(.block 0 (.seq (.reg [⟨(some 58),(.q (.bin .eql (.p .int) (.t 55) (.c (.int .i64 (.ofNat 0))))),none,0⟩,
⟨(some 57),(.q (.mv (.t 58))),none,0⟩])
(.cond (.t 57) (.seq (.reg [⟨(some 59),(.q (.mv (.t 13))),none,0⟩,
⟨(some 8),(.q (.mv (.t 59))),none,0⟩,
⟨(some 9),(.q (.mv (.c (.int .i64 (.ofNat 1))))),none,0⟩])
.ret) (.seq (.reg [⟨(some 61),(.q (.bin .eql (.p .int) (.t 55) (.c (.int .i64 (.ofNat 12))))),none,0⟩,
⟨(some 60),(.q (.mv (.t 61))),none,0⟩])
(.cond (.t 60) (.seq (.reg [⟨(some 62),(.q (.mv (.t 13))),none,0⟩,
⟨(some 8),(.q (.mv (.t 62))),none,0⟩,
⟨(some 9),(.q (.mv (.c (.int .i64 (.ofNat 2))))),none,0⟩])
.ret) (.seq (.reg [⟨(some 56),(.q (.mv (.t 13))),none,0⟩,
⟨(some 8),(.q (.mv (.t 56))),none,0⟩,
⟨(some 9),(.q (.mv (.c (.int .i64 (.ofNat 0))))),none,0⟩])
.ret))))))))))))))⟩
theorem row87 : Row Tryd.prog (87, a87) := ⟨Tryd.f87, Tryd.func87, by kernel_rfl⟩
noncomputable def a88 : AFn :=
⟨34,[],(.seq (.reg [⟨(some 10),(.q (.mv (.t 1))),none,0⟩,
⟨(some 8),(.q (.mv (.t 10))),none,0⟩])
(.seq (.reg [⟨(some 11),(.q (.mv (.t 2))),none,0⟩,
⟨(some 12),(.q (.bin .sub (.p .int) (.t 11) (.c (.int .i64 (.ofNat 1))))),none,0⟩,
⟨(some 9),(.q (.mv (.t 12))),none,0⟩])
(.block 0 (.loop (.seq (.seq (.reg [⟨(some 13),(.q (.mv (.t 8))),none,0⟩,
⟨(some 14),(.q (.mv (.t 9))),none,0⟩,
⟨(some 15),(.q (.bin .lss (.p .int) (.t 13) (.t 14))),none,0⟩])
(.cond (.t 15) .skip (.exit 0)))
(.block 1 (.seq (.drw [⟨(some 16),(.q (.mv (.t 0))),none,0⟩,
⟨(some 17),(.q (.mv (.t 8))),none,0⟩,
⟨(some 18),(.q (.mv (.t 0))),none,0⟩,
⟨(some 19),(.q (.mv (.t 9))),none,0⟩,
⟨(some 20),(.q (.mv (.t 0))),none,0⟩,
⟨(some 21),(.q (.mv (.t 9))),none,0⟩,
⟨(some 22),(.q (.iaddr (.slice 1) (.t 20) (.t 21))),none,48⟩,
⟨(some 23),(.q (.ld false 1 (.t 22))),none,112⟩,
⟨(some 24),(.q (.mv (.t 0))),none,0⟩,
⟨(some 25),(.q (.mv (.t 8))),none,0⟩,
⟨(some 26),(.q (.iaddr (.slice 1) (.t 24) (.t 25))),none,768⟩,
⟨(some 27),(.q (.ld false 1 (.t 26))),none,1792⟩,
⟨(some 28),(.q (.iaddr (.slice 1) (.t 16) (.t 17))),none,4083⟩,
⟨none,(.x (.st 1 (.t 28) (.t 23))),none,8179⟩,
⟨(some 29),(.q (.iaddr (.slice 1) (.t 18) (.t 19))),none,16383⟩,
⟨none,(.x (.st 1 (.t 29) (.t 27))),none,32767⟩])
(.seq (.reg [⟨(some 30),(.q (.mv (.t 8))),none,0⟩,
⟨(some 31),(.q (.bin .add (.p .int) (.t 30) (.c (.int .i64 (.ofNat 1))))),none,0⟩,
⟨(some 8),(.q (.mv (.t 31))),none,0⟩])
(.reg [⟨(some 32),(.q (.mv (.t 9))),none,0⟩,
⟨(some 33),(.q (.bin .sub (.p .int) (.t 32) (.c (.int .i64 (.ofNat 1))))),none,0⟩,
⟨(some 9),(.q (.mv (.t 33))),none,0⟩])))))))))⟩
theorem row88 : Row Tryd.prog (88, a88) := ⟨Tryd.f88, Tryd.func88, by kernel_rfl⟩
noncomputable def a89 : AFn :=
⟨141,[(.t 8)],(.seq (.reg [⟨(some 8),(.q (.mv (.c (.bool false)))),none,0⟩])
(.seq (.reg [⟨(some 13),(.q (.mv (.t 1))),none,0⟩,
⟨(some 14),(.q (.bin .add (.p .int) (.t 13) (.c (.int .i64 (.ofNat 1))))),none,0⟩,
⟨(some 9),(.q (.mv (.t 14))),none,0⟩])
(.seq (.seq (.reg [⟨(some 10),(.q (.mv (.c (.int .i64 (.ofNat 0))))),none,0⟩])
(.block 0 (.loop (.seq (.seq (.reg [⟨(some 15),(.q (.mv (.t 10))),none,0⟩,
⟨(some 16),(.q (.bin .lss (.p .int) (.t 15) (.c (.int .i64 (.ofNat 5))))),none,0⟩])
(.cond (.t 16) .skip (.exit 0)))
(.seq (.block 1 (.seq (.block 2 (.loop (.seq (.seq (.drw [⟨(some 19),(.q (.mv (.t 9))),none,0⟩,
⟨(some 20),(.q (.mv (.t 2))),none,0⟩,
⟨(some 21),(.q (.bin .lss (.p .int) (.t 19) (.t 20))),none,3⟩,
⟨(some 22),(.q (.mv (.t 21))),none,7⟩,
⟨(some 23),(.q (.mv (.t 3))),(some (22,true)),15⟩,
⟨(some 24),(.q (.mv (.t 0))),(some (22,true)),15⟩,
⟨(some 25),(.q (.mv (.t 9))),(some (22,true)),15⟩,
⟨(some 26),(.q (.iaddr (.slice 1) (.t 24) (.t 25))),(some (22,true)),111⟩,
⟨(some 27),(.q (.ld false 1 (.t 26))),(some (22,true)),239⟩,
⟨(some 28),(.q (.mv (.t 0))),(some (22,true)),15⟩,
⟨(some 29),(.q (.mv (.t 9))),(some (22,true)),15⟩,
⟨(some 30),(.q (.bin .sub (.p .int) (.t 29) (.c (.int .i64 (.ofNat 1))))),(some (22,true)),1039⟩,
⟨(some 31),(.q (.iaddr (.slice 1) (.t 28) (.t 30))),(some (22,true)),3599⟩,
⟨(some 32),(.q (.ld false 1 (.t 31))),(some (22,true)),7695⟩,
⟨(some 33),(.x (.call (.t 23) [(.t 27),(.t 32)])),(some (22,true)),16383⟩,
⟨(some 34),(.q (.bin .lss (.p .int) (.t 33) (.c (.int .i64 (.ofNat 0))))),(some (22,true)),32767⟩,
⟨(some 35),(.q (.un .not (.t 34))),(some (22,true)),65535⟩,
⟨(some 36),(.q (.pick (.t 22) (.t 35) (.c (.bool false)))),none,131071⟩])
(.cond (.t 36) .skip (.exit 2)))
(.block 3 (.reg [⟨(some 37),(.q (.mv (.t 9))),none,0⟩,
⟨(some 38),(.q (.bin .add (.p .int) (.t 37) (.c (.int .i64 (.ofNat 1))))),none,0⟩,
⟨(some 9),(.q (.mv (.t 38))),none,0⟩])))))
(.seq (.seq (.reg [⟨(some 39),(.q (.mv (.t 9))),none,0⟩,
⟨(some 40),(.q (.mv (.t 2))),none,0⟩,
⟨(some 41),(.q (.bin .eql (.p .int) (.t 39) (.t 40))),none,0⟩])
(.cond (.t 41) (.seq (.reg [⟨(some 8),(.q (.mv (.c (.bool true)))),none,0⟩])
.ret) .skip))
(.seq (.seq (.reg [⟨(some 42),(.q (.mv (.t 2))),none,0⟩,
⟨(some 43),(.q (.mv (.t 1))),none,0⟩,
⟨(some 44),(.q (.bin .sub (.p .int) (.t 42) (.t 43))),none,0⟩,
⟨(some 45),(.q (.bin .lss (.p .int) (.t 44) (.c (.int .i64 (.ofNat 50))))),none,0⟩])
(.cond (.t 45) (.seq (.reg [⟨(some 8),(.q (.mv (.c (.bool false)))),none,0⟩])
.ret) .skip))
(.seq (.drw [⟨(some 46),(.q (.mv (.t 0))),none,0⟩,
⟨(some 47),(.q (.mv (.t 9))),none,0⟩,
⟨(some 48),(.q (.mv (.t 0))),none,0⟩,
⟨(some 49),(.q (.mv (.t 9))),none,0⟩,
⟨(some 50),(.q (.bin .sub (.p .int) (.t 49) (.c (.int .i64 (.ofNat 1))))),none,8⟩,
⟨(some 51),(.q (.mv (.t 0))),none,0⟩,
⟨(some 52),(.q (.mv (.t 9))),none,0⟩,
⟨(some 53),(.q (.bin .sub (.p .int) (.t 52) (.c (.int .i64 (.ofNat 1))))),none,64⟩,
⟨(some 54),(.q (.iaddr (.slice 1) (.t 51) (.t 53))),none,224⟩,
⟨(some 55),(.q (.ld false 1 (.t 54))),none,480⟩,
⟨(some 56),(.q (.mv (.t 0))),none,0⟩,
⟨(some 57),(.q (.mv (.t 9))),none,0⟩,
⟨(some 58),(.q (.iaddr (.slice 1) (.t 56) (.t 57))),none,3072⟩,
⟨(some 59),(.q (.ld false 1 (.t 58))),none,7168⟩,
⟨(some 60),(.q (.iaddr (.slice 1) (.t 46) (.t 47))),none,16355⟩,
⟨none,(.x (.st 1 (.t 60) (.t 55))),none,32739⟩,
⟨(some 61),(.q (.iaddr (.slice 1) (.t 48) (.t 50))),none,65535⟩,
⟨none,(.x (.st 1 (.t 61) (.t 59))),none,131071⟩])
(.seq (.seq (.reg [⟨(some 62),(.q (.mv (.t 9))),none,0⟩,
⟨(some 63),(.q (.mv (.t 1))),none,0⟩,
⟨(some 64),(.q (.bin .sub (.p .int) (.t 62) (.t 63))),none,0⟩,
⟨(some 65),(.q (.bin .geq (.p .int) (.t 64) (.c (.int .i64 (.ofNat 2))))),none,0⟩])
(.cond (.t 65) (.seq (.reg [⟨(some 66),(.q (.mv (.t 9))),none,0⟩,
⟨(some 67),(.q (.bin .sub (.p .int) (.t 66) (.c (.int .i64 (.ofNat 1))))),none,0⟩,
⟨(some 11),(.q (.mv (.t 67))),none,0⟩])
(.block 4 (.loop (.seq (.seq (.reg [⟨(some 68),(.q (.mv (.t 11))),none,0⟩,
⟨(some 69),(.q (.bin .geq (.p .int) (.t 68) (.c (.int .i64 (.ofNat 1))))),none,0⟩])
(.cond (.t 69) .skip (.exit 4)))
(.seq (.block 5 (.seq (.seq (.drw [⟨(some 72),(.q (.mv (.t 3))),none,0⟩,
⟨(some 73),(.q (.mv (.t 0))),none,0⟩,
⟨(some 74),(.q (.mv (.t 11))),none,0⟩,
⟨(some 75),(.q (.iaddr (.slice 1) (.t 73) (.t 74))),none,6⟩,
⟨(some 76),(.q (.ld false 1 (.t 75))),none,14⟩,
⟨(some 77),(.q (.mv (.t 0))),none,0⟩,
⟨(some 78),(.q (.mv (.t 11))),none,0⟩,
⟨(some 79),(.q (.bin .sub (.p .int) (.t 78) (.c (.int .i64 (.ofNat 1))))),none,64⟩,
⟨(some 80),(.q (.iaddr (.slice 1) (.t 77) (.t 79))),none,224⟩,
⟨(some 81),(.q (.ld false 1 (.t 80))),none,480⟩,
⟨(some 82),(.x (.call (.t 72) [(.t 76),(.t 81)])),none,1023⟩,
⟨(some 83),(.q (.bin .lss (.p .int) (.t 82) (.c (.int .i64 (.ofNat 0))))),none,2047⟩,
⟨(some 84),(.q (.un .not (.t 83))),none,4095⟩])
(.cond (.t 84) (.exit 4) .skip))
(.drw [⟨(some 85),(.q (.mv (.t 0))),none,0⟩,
⟨(some 86),(.q (.mv (.t 11))),none,0⟩,
⟨(some 87),(.q (.mv (.t 0))),none,0⟩,
⟨(some 88),(.q (.mv (.t 11))),none,0⟩,
⟨(some 89),(.q (.bin .sub (.p .int) (.t 88) (.c (.int .i64 (.ofNat 1))))),none,8⟩,
⟨(some 90),(.q (.mv (.t 0))),none,0⟩,
⟨(some 91),(.q (.mv (.t 11))),none,0⟩,
⟨(some 92),(.q (.bin .sub (.p .int) (.t 91) (.c (.int .i64 (.ofNat 1))))),none,64⟩,
⟨(some 93),(.q (.iaddr (.slice 1) (.t 90) (.t 92))),none,224⟩,
⟨(some 94),(.q (.ld false 1 (.t 93))),none,480⟩,
⟨(some 95),(.q (.mv (.t 0))),none,0⟩,
⟨(some 96),(.q (.mv (.t 11))),none,0⟩,
⟨(some 97),(.q (.iaddr (.slice 1) (.t 95) (.t 96))),none,3072⟩,
⟨(some 98),(.q (.ld false 1 (.t 97))),none,7168⟩,
⟨(some 99),(.q (.iaddr (.slice 1) (.t 85) (.t 86))),none,16355⟩,
⟨none,(.x (.st 1 (.t 99) (.t 94))),none,32739⟩,
⟨(some 100),(.q (.iaddr (.slice 1) (.t 87) (.t 89))),none,65535⟩,
⟨none,(.x (.st 1 (.t 100) (.t 98))),none,131071⟩])))
(.reg [⟨(some 70),(.q (.mv (.t 11))),none,0⟩,
⟨(some 71),(.q (.bin .sub (.p .int) (.t 70) (.c (.int .i64 (.ofNat 1))))),none,0⟩,
⟨(some 11),(.q (.mv (.t 71))),none,0⟩])))))) .skip))
(.seq (.reg [⟨(some 101),(.q (.mv (.t 2))),none,0⟩,
⟨(some 102),(.q (.mv (.t 9))),none,0⟩,
⟨(some 103),(.q (.bin .sub (.p .int) (.t 101) (.t 102))),none,0⟩,
⟨(some 104),(.q (.bin .geq (.p .int) (.t 103) (.c (.int .i64 (.ofNat 2))))),none,0⟩])
(.cond (.t 104) (.seq (.reg [⟨(some 105),(.q (.mv (.t 9))),none,0⟩,
⟨(some 106),(.q (.bin .add (.p .int) (.t 105) (.c (.int .i64 (.ofNat 1))))),none,0⟩,
⟨(some 12),(.q (.mv (.t 106))),none,0⟩])
(.block 6 (.loop (.seq (.seq (.reg [⟨(some 107),(.q (.mv (.t 12))),none,0⟩,
⟨(some 108),(.q (.mv (.t 2))),none,0⟩,
⟨(some 109),(.q (.bin .lss (.p .int) (.t 107) (.t 108))),none,0⟩])
(.cond (.t 109) .skip (.exit 6)))
(.seq (.block 7 (.seq (.seq (.drw [⟨(some 112),(.q (.mv (.t 3))),none,0⟩,
⟨(some 113),(.q (.mv (.t 0))),none,0⟩,
⟨(some 114),(.q (.mv (.t 12))),none,0⟩,
⟨(some 115),(.q (.iaddr (.slice 1) (.t 113) (.t 114))),none,6⟩,
⟨(some 116),(.q (.ld false 1 (.t 115))),none,14⟩,
⟨(some 117),(.q (.mv (.t 0))),none,0⟩,
⟨(some 118),(.q (.mv (.t 12))),none,0⟩,
⟨(some 119),(.q (.bin .sub (.p .int) (.t 118) (.c (.int .i64 (.ofNat 1))))),none,64⟩,
⟨(some 120),(.q (.iaddr (.slice 1) (.t 117) (.t 119))),none,224⟩,
⟨(some 121),(.q (.ld false 1 (.t 120))),none,480⟩,
⟨(some 122),(.x (.call (.t 112) [(.t 116),(.t 121)])),none,1023⟩,
⟨(some 123),(.q (.bin .lss (.p .int) (.t 122) (.c (.int .i64 (.ofNat 0))))),none,2047⟩,
⟨(some 124),(.q (.un .not (.t 123))),none,4095⟩])
(.cond (.t 124) (.exit 6) .skip))
(.drw [⟨(some 125),(.q (.mv (.t 0))),none,0⟩,
⟨(some 126),(.q (.mv (.t 12))),none,0⟩,
⟨(some 127),(.q (.mv (.t 0))),none,0⟩,
⟨(some 128),(.q (.mv (.t 12))),none,0⟩,
⟨(some 129),(.q (.bin .sub (.p .int) (.t 128) (.c (.int .i64 (.ofNat 1))))),none,8⟩,
⟨(some 130),(.q (.mv (.t 0))),none,0⟩,
⟨(some 131),(.q (.mv (.t 12))),none,0⟩,
⟨(some 132),(.q (.bin .sub (.p .int) (.t 131) (.c (.int .i64 (.ofNat 1))))),none,64⟩,
⟨(some 133),(.q (.iaddr (.slice 1) (.t 130) (.t 132))),none,224⟩,
⟨(some 134),(.q (.ld false 1 (.t 133))),none,480⟩,
⟨(some 135),(.q (.mv (.t 0))),none,0⟩,
⟨(some 136),(.q (.mv (.t 12))),none,0⟩,
⟨(some 137),(.q (.iaddr (.slice 1) (.t 135) (.t 136))),none,3072⟩,
⟨(some 138),(.q (.ld false 1 (.t 137))),none,7168⟩,
⟨(some 139),(.q (.iaddr (.slice 1) (.t 125) (.t 126))),none,16355⟩,
⟨none,(.x (.st 1 (.t 139) (.t 134))),none,32739⟩,
⟨(some 140),(.q (.iaddr (.slice 1) (.t 127) (.t 129))),none,65535⟩,
⟨none,(.x (.st 1 (.t 140) (.t 138))),none,131071⟩])))
(.reg [⟨(some 110),(.q (.mv (.t 12))),none,0⟩,
⟨(some 111),(.q (.bin .add (.p .int) (.t 110) (.c (.int .i64 (.ofNat 1))))),none,0⟩,
⟨(some 12),(.q (.mv (.t 111))),none,0⟩])))))) .skip))))))))
(.reg [⟨(some 17),(.q (.mv (.t 10))),none,0⟩,
⟨(some 18),(.q (.bin .add (.p .int) (.t 17) (.c (.int .i64 (.ofNat 1))))),none,0⟩,
⟨(some 10),(.q (.mv (.t 18))),none,0⟩]))))))
(.seq (.reg [⟨(some 8),(.q (.mv (.c (.bool false)))),none,0⟩])
.ret))))⟩
theorem row89 : Row Tryd.prog (89, a89) := ⟨Tryd.f89, Tryd.func89, by kernel_rfl⟩
noncomputable def a90 : AFn :=
⟨90,[(.t 10)],(.seq (.reg [⟨(some 10),(.q (.mv (.c (.int .i64 (.ofNat 0))))),none,0⟩])
(.seq (.drw [⟨(some 13),(.q (.mv (.t 0))),none,0⟩,
⟨(some 14),(.q (.mv (.t 1))),none,0⟩,
⟨(some 15),(.q (.mv (.t 0))),none,0⟩,
⟨(some 16),(.q (.mv (.t 3))),none,0⟩,
⟨(some 17),(.q (.mv (.t 0))),none,0⟩,
⟨(some 18),(.q (.mv (.t 3))),none,0⟩,
⟨(some 19),(.q (.iaddr (.slice 1) (.t 17) (.t 18))),none,48⟩,
⟨(some 20),(.q (.ld false 1 (.t 19))),none,112⟩,
⟨(some 21),(.q (.mv (.t 0))),none,0⟩,
⟨(some 22),(.q (.mv (.t 1))),none,0⟩,
⟨(some 23),(.q (.iaddr (.slice 1) (.t 21) (.t 22))),none,768⟩,
⟨(some 24),(.q (.ld false 1 (.t 23))),none,1792⟩,
⟨(some 25),(.q (.iaddr (.slice 1) (.t 13) (.t 14))),none,4083⟩,
⟨none,(.x (.st 1 (.t 25) (.t 20))),none,8179⟩,
⟨(some 26),(.q (.iaddr (.slice 1) (.t 15) (.t 16))),none,16383⟩,
⟨none,(.x (.st 1 (.t 26) (.t 24))),none,32767⟩])
(.seq (.reg [⟨(some 27),(.q (.mv (.t 1))),none,0⟩,
⟨(some 28),(.q (.bin .add (.p .int) (.t 27) (.c (.int .i64 (.ofNat 1))))),none,0⟩,
⟨(some 29),(.q (.mv (.t 2))),none,0⟩,
⟨(some 30),(.q (.bin .sub (.p .int) (.t 29) (.c (.int .i64 (.ofNat 1))))),none,0⟩,
⟨(some 11),(.q (.mv (.t 28))),none,0⟩,
⟨(some 12),(.q (.mv (.t 30))),none,0⟩])
(.seq (.block 0 (.loop (.block 1 (.seq (.block 2 (.loop (.seq (.seq (.drw [⟨(some 31),(.q (.mv (.t 11))),none,0⟩,
⟨(some 32),(.q (.mv (.t 12))),none,0⟩,
⟨(some 33),(.q (.bin .leq (.p .int) (.t 31) (.t 32))),none,3⟩,
⟨(some 34),(.q (.mv (.t 33))),none,7⟩,
⟨(some 35),(.q (.mv (.t 4))),(some (34,true)),15⟩,
⟨(some 36),(.q (.mv (.t 0))),(some (34,true)),15⟩,
⟨(some 37),(.q (.mv (.t 1))),(some (34,true)),15⟩,
⟨(some 38),(.q (.iaddr (.slice 1) (.t 36) (.t 37))),(some (34,true)),111⟩,
⟨(some 39),(.q (.ld false 1 (.t 38))),(some (34,true)),239⟩,
⟨(some 40),(.q (.mv (.t 0))),(some (34,true)),15⟩,
⟨(some 41),(.q (.mv (.t 11))),(some (34,true)),15⟩,
⟨(some 42),(.q (.iaddr (.slice 1) (.t 40) (.t 41))),(some (34,true)),1551⟩,
⟨(some 43),(.q (.ld false 1 (.t 42))),(some (34,true)),3599⟩,
⟨(some 44),(.x (.call (.t 35) [(.t 39),(.t 43)])),(some (34,true)),8191⟩,
⟨(some 45),(.q (.bin .lss (.p .int) (.t 44) (.c (.int .i64 (.ofNat 0))))),(some (34,true)),16383⟩,
⟨(some 46),(.q (.un .not (.t 45))),(some (34,true)),32767⟩,
⟨(some 47),(.q (.pick (.t 34) (.t 46) (.c (.bool false)))),none,65535⟩])
(.cond (.t 47) .skip (.exit 2)))
(.block 3 (.reg [⟨(some 48),(.q (.mv (.t 11))),none,0⟩,
⟨(some 49),(.q (.bin .add (.p .int) (.t 48) (.c (.int .i64 (.ofNat 1))))),none,0⟩,
⟨(some 11),(.q (.mv (.t 49))),none,0⟩])))))
(.seq (.block 4 (.loop (.seq (.seq (.drw [⟨(some 50),(.q (.mv (.t 11))),none,0⟩,
⟨(some 51),(.q (.mv (.t 12))),none,0⟩,
⟨(some 52),(.q (.bin .leq (.p .int) (.t 50) (.t 51))),none,3⟩,
⟨(some 53),(.q (.mv (.t 52))),none,7⟩,
⟨(some 54),(.q (.mv (.t 4))),(some (53,true)),15⟩,
⟨(some 55),(.q (.mv (.t 0))),(some (53,true)),15⟩,
⟨(some 56),(.q (.mv (.t 1))),(some (53,true)),15⟩,
⟨(some 57),(.q (.iaddr (.slice 1) (.t 55) (.t 56))),(some (53,true)),111⟩,
⟨(some 58),(.q (.ld false 1 (.t 57))),(some (53,true)),239⟩,
⟨(some 59),(.q (.mv (.t 0))),(some (53,true)),15⟩,
⟨(some 60),(.q (.mv (.t 12))),(some (53,true)),15⟩,
⟨(some 61),(.q (.iaddr (.slice 1) (.t 59) (.t 60))),(some (53,true)),1551⟩,
⟨(some 62),(.q (.ld false 1 (.t 61))),(some (53,true)),3599⟩,
⟨(some 63),(.x (.call (.t 54) [(.t 58),(.t 62)])),(some (53,true)),8191⟩,
⟨(some 64),(.q (.bin .lss (.p .int) (.t 63) (.c (.int .i64 (.ofNat 0))))),(some (53,true)),16383⟩,
⟨(some 65),(.q (.pick (.t 53) (.t 64) (.c (.bool false)))),none,32767⟩])
(.cond (.t 65) .skip (.exit 4)))
(.block 5 (.reg [⟨(some 66),(.q (.mv (.t 12))),none,0⟩,
⟨(some 67),(.q (.bin .sub (.p .int) (.t 66) (.c (.int .i64 (.ofNat 1))))),none,0⟩,
⟨(some 12),(.q (.mv (.t 67))),none,0⟩])))))
(.seq (.seq (.reg [⟨(some 68),(.q (.mv (.t 11))),none,0⟩,
⟨(some 69),(.q (.mv (.t 12))),none,0⟩,
⟨(some 70),(.q (.bin .gtr (.p .int) (.t 68) (.t 69))),none,0⟩])
(.cond (.t 70) (.exit 0) .skip))
(.seq (.drw [⟨(some 71),(.q (.mv (.t 0))),none,0⟩,
⟨(some 72),(.q (.mv (.t 11))),none,0⟩,
⟨(some 73),(.q (.mv (.t 0))),none,0⟩,
⟨(some 74),(.q (.mv (.t 12))),none,0⟩,
⟨(some 75),(.q (.mv (.t 0))),none,0⟩,
⟨(some 76),(.q (.mv (.t 12))),none,0⟩,
⟨(some 77),(.q (.iaddr (.slice 1) (.t 75) (.t 76))),none,48⟩,
⟨(some 78),(.q (.ld false 1 (.t 77))),none,112⟩,
⟨(some 79),(.q (.mv (.t 0))),none,0⟩,
⟨(some 80),(.q (.mv (.t 11))),none,0⟩,
⟨(some 81),(.q (.iaddr (.slice 1) (.t 79) (.t 80))),none,768⟩,
⟨(some 82),(.q (.ld false 1 (.t 81))),none,1792⟩,
⟨(some 83),(.q (.iaddr (.slice 1) (.t 71) (.t 72))),none,4083⟩,
⟨none,(.x (.st 1 (.t 83) (.t 78))),none,8179⟩,
⟨(some 84),(.q (.iaddr (.slice 1) (.t 73) (.t 74))),none,16383⟩,
⟨none,(.x (.st 1 (.t 84) (.t 82))),none,32767⟩])
(.seq (.reg [⟨(some 85),(.q (.mv (.t 11))),none,0⟩,
⟨(some 86),(.q (.bin .add (.p .int) (.t 85) (.c (.int .i64 (.ofNat 1))))),none,0⟩,
⟨(some 11),(.q (.mv (.t 86))),none,0⟩])
(.reg [⟨(some 87),(.q (.mv (.t 12))),none,0⟩,
⟨(some 88),(.q (.bin .sub (.p .int) (.t 87) (.c (.int .i64 (.ofNat 1))))),none,0⟩,
⟨(some 12),(.q (.mv (.t 88))),none,0⟩])))))))))
(.seq (.reg [⟨(some 89),(.q (.mv (.t 11))),none,0⟩,
⟨(some 10),(.q (.mv (.t 89))),none,0⟩])
.ret)))))⟩
theorem row90 : Row Tryd.prog (90, a90) := ⟨Tryd.f90, Tryd.func90, by kernel_rfl⟩
noncomputable def a91 : AFn :=
⟨178,[(.t 10),(.t 11)],(.seq (.reg [⟨(some 10),(.q (.mv (.c (.int .i64 (.ofNat 0))))),none,0⟩,
⟨(some 11),(.q (.mv (.c (.bool false)))),none,0⟩])
(.seq (.drw [⟨(some 14),(.q (.mv (.t 0))),none,0⟩,
⟨(some 15),(.q (.mv (.t 1))),none,0⟩,
⟨(some 16),(.q (.mv (.t 0))),none,0⟩,
⟨(some 17),(.q (.mv (.t 3))),none,0⟩,
⟨(some 18),(.q (.mv (.t 0))),none,0⟩,
⟨(some 19),(.q (.mv (.t 3))),none,0⟩,
⟨(some 20),(.q (.iaddr (.slice 1) (.t 18) (.t 19))),none,48⟩,
⟨(some 21),(.q (.ld false 1 (.t 20))),none,112⟩,
⟨(some 22),(.q (.mv (.t 0))),none,0⟩,
⟨(some 23),(.q (.mv (.t 1))),none,0⟩,
⟨(some 24),(.q (.iaddr (.slice 1) (.t 22) (.t 23))),none,768⟩,
⟨(some 25),(.q (.ld false 1 (.t 24))),none,1792⟩,
⟨(some 26),(.q (.iaddr (.slice 1) (.t 14) (.t 15))),none,4083⟩,
⟨none,(.x (.st 1 (.t 26) (.t 21))),none,8179⟩,
⟨(some 27),(.q (.iaddr (.slice 1) (.t 16) (.t 17))),none,16383⟩,
⟨none,(.x (.st 1 (.t 27) (.t 25))),none,32767⟩])
(.seq (.reg [⟨(some 28),(.q (.mv (.t 1))),none,0⟩,
⟨(some 29),(.q (.bin .add (.p .int) (.t 28) (.c (.int .i64 (.ofNat 1))))),none,0⟩,
⟨(some 30),(.q (.mv (.t 2))),none,0⟩,
⟨(some 31),(.q (.bin .sub (.p .int) (.t 30) (.c (.int .i64 (.ofNat 1))))),none,0⟩,
⟨(some 12),(.q (.mv (.t 29))),none,0⟩,
⟨(some 13),(.q (.mv (.t 31))),none,0⟩])
(.seq (.block 0 (.loop (.seq (.seq (.drw [⟨(some 32),(.q (.mv (.t 12))),none,0⟩,
⟨(some 33),(.q (.mv (.t 13))),none,0⟩,
⟨(some 34),(.q (.bin .leq (.p .int) (.t 32) (.t 33))),none,3⟩,
⟨(some 35),(.q (.mv (.t 34))),none,7⟩,
⟨(some 36),(.q (.mv (.t 4))),(some (35,true)),15⟩,
⟨(some 37),(.q (.mv (.t 0))),(some (35,true)),15⟩,
⟨(some 38),(.q (.mv (.t 12))),(some (35,true)),15⟩,
⟨(some 39),(.q (.iaddr (.slice 1) (.t 37) (.t 38))),(some (35,true)),111⟩,
⟨(some 40),(.q (.ld false 1 (.t 39))),(some (35,true)),239⟩,
⟨(some 41),(.q (.mv (.t 0))),(some (35,true)),15⟩,
⟨(some 42),(.q (.mv (.t 1))),(some (35,true)),15⟩,
⟨(some 43),(.q (.iaddr (.slice 1) (.t 41) (.t 42))),(some (35,true)),1551⟩,
⟨(some 44),(.q (.ld false 1 (.t 43))),(some (35,true)),3599⟩,
⟨(some 45),(.x (.call (.t 36) [(.t 40),(.t 44)])),(some (35,true)),8191⟩,
⟨(some 46),(.q (.bin .lss (.p .int) (.t 45) (.c (.int .i64 (.ofNat 0))))),(some (35,true)),16383⟩,
⟨(some 47),(.q (.pick (.t 35) (.t 46) (.c (.bool false)))),none,32767⟩])
(.cond (.t 47) .skip (.exit 0)))
(.block 1 (.reg [⟨(some 48),(.q (.mv (.t 12))),none,0⟩,
⟨(some 49),(.q (.bin .add (.p .int) (.t 48) (.c (.int .i64 (.ofNat 1))))),none,0⟩,
⟨(some 12),(.q (.mv (.t 49))),none,0⟩])))))
(.seq (.block 2 (.loop (.seq (.seq (.drw [⟨(some 50),(.q (.mv (.t 12))),none,0⟩,
⟨(some 51),(.q (.mv (.t 13))),none,0⟩,
⟨(some 52),(.q (.bin .leq (.p .int) (.t 50) (.t 51))),none,3⟩,
⟨(some 53),(.q (.mv (.t 52))),none,7⟩,
⟨(some 54),(.q (.mv (.t 4))),(some (53,true)),15⟩,
⟨(some 55),(.q (.mv (.t 0))),(some (53,true)),15⟩,
⟨(some 56),(.q (.mv (.t 13))),(some (53,true)),15⟩,
⟨(some 57),(.q (.iaddr (.slice 1) (.t 55) (.t 56))),(some (53,true)),111⟩,
⟨(some 58),(.q (.ld false 1 (.t 57))),(some (53,true)),239⟩,
⟨(some 59),(.q (.mv (.t 0))),(some (53,true)),15⟩,
⟨(some 60),(.q (.mv (.t 1))),(some (53,true)),15⟩,
⟨(some 61),(.q (.iaddr (.slice 1) (.t 59) (.t 60))),(some (53,true)),1551⟩,
⟨(some 62),(.q (.ld false 1 (.t 61))),(some (53,true)),3599⟩,
⟨(some 63),(.x (.call (.t 54) [(.t 58),(.t 62)])),(some (53,true)),8191⟩,
⟨(some 64),(.q (.bin .lss (.p .int) (.t 63) (.c (.int .i64 (.ofNat 0))))),(some (53,true)),16383⟩,
⟨(some 65),(.q (.un .not (.t 64))),(some (53,true)),32767⟩,
⟨(some 66),(.q (.pick (.t 53) (.t 65) (.c (.bool false)))),none,65535⟩])
(.cond (.t 66) .skip (.exit 2)))
(.block 3 (.reg [⟨(some 67),(.q (.mv (.t 13))),none,0⟩,
⟨(some 68),(.q (.bin .sub (.p .int) (.t 67) (.c (.int .i64 (.ofNat 1))))),none,0⟩,
⟨(some 13),(.q (.mv (.t 68))),none,0⟩])))))
(.seq (.seq (.reg [⟨(some 69),(.q (.mv (.t 12))),none,0⟩,
⟨(some 70),(.q (.mv (.t 13))),none,0⟩,
⟨(some 71),(.q (.bin .gtr (.p .int) (.t 69) (.t 70))),none,0⟩])
(.cond (.t 71) (.seq (.drw [⟨(some 72),(.q (.mv (.t 0))),none,0⟩,
⟨(some 73),(.q (.mv (.t 13))),none,0⟩,
⟨(some 74),(.q (.mv (.t 0))),none,0⟩,
⟨(some 75),(.q (.mv (.t 1))),none,0⟩,
⟨(some 76),(.q (.mv (.t 0))),none,0⟩,
⟨(some 77),(.q (.mv (.t 1))),none,0⟩,
⟨(some 78),(.q (.iaddr (.slice 1) (.t 76) (.t 77))),none,48⟩,
⟨(some 79),(.q (.ld false 1 (.t 78))),none,112⟩,
⟨(some 80),(.q (.mv (.t 0))),none,0⟩,
⟨(some 81),(.q (.mv (.t 13))),none,0⟩,
⟨(some 82),(.q (.iaddr (.slice 1) (.t 80) (.t 81))),none,768⟩,
⟨(some 83),(.q (.ld false 1 (.t 82))),none,1792⟩,
⟨(some 84),(.q (.iaddr (.slice 1) (.t 72) (.t 73))),none,4083⟩,
⟨none,(.x (.st 1 (.t 84) (.t 79))),none,8179⟩,
⟨(some 85),(.q (.iaddr (.slice 1) (.t 74) (.t 75))),none,16383⟩,
⟨none,(.x (.st 1 (.t 85) (.t 83))),none,32767⟩])
(.seq (.reg [⟨(some 86),(.q (.mv (.t 13))),none,0⟩,
⟨(some 10),(.q (.mv (.t 86))),none,0⟩,
⟨(some 11),(.q (.mv (.c (.bool true)))),none,0⟩])
.ret)) .skip))
(.seq (.drw [⟨(some 87),(.q (.mv (.t 0))),none,0⟩,
⟨(some 88),(.q (.mv (.t 12))),none,0⟩,
⟨(some 89),(.q (.mv (.t 0))),none,0⟩,
⟨(some 90),(.q (.mv (.t 13))),none,0⟩,
⟨(some 91),(.q (.mv (.t 0))),none,0⟩,
⟨(some 92),(.q (.mv (.t 13))),none,0⟩,
⟨(some 93),(.q (.iaddr (.slice 1) (.t 91) (.t 92))),none,48⟩,
⟨(some 94),(.q (.ld false 1 (.t 93))),none,112⟩,
⟨(some 95),(.q (.mv (.t 0))),none,0⟩,
⟨(some 96),(.q (.mv (.t 12))),none,0⟩,
⟨(some 97),(.q (.iaddr (.slice 1) (.t 95) (.t 96))),none,768⟩,
⟨(some 98),(.q (.ld false 1 (.t 97))),none,1792⟩,
⟨(some 99),(.q (.iaddr (.slice 1) (.t 87) (.t 88))),none,4083⟩,
⟨none,(.x (.st 1 (.t 99) (.t 94))),none,8179⟩,
⟨(some 100),(.q (.iaddr (.slice 1) (.t 89) (.t 90))),none,16383⟩,
⟨none,(.x (.st 1 (.t 100) (.t 98))),none,32767⟩])
(.seq (.reg [⟨(some 101),(.q (.mv (.t 12))),none,0⟩,
⟨(some 102),(.q (.bin .add (.p .int) (.t 101) (.c (.int .i64 (.ofNat 1))))),none,0⟩,
⟨(some 12),(.q (.mv (.t 102))),none,0⟩])
(.seq (.reg [⟨(some 103),(.q (.mv (.t 13))),none,0⟩,
⟨(some 104),(.q (.bin .sub (.p .int) (.t 103) (.c (.int .i64 (.ofNat 1))))),none,0⟩,
⟨(some 13),(.q (.mv (.t 104))),none,0⟩])
(.seq (.block 4 (.loop (.block 5 (.seq (.block 6 (.loop (.seq (.seq (.drw [⟨(some 105),(.q (.mv (.t 12))),none,0⟩,
⟨(some 106),(.q (.mv (.t 13))),none,0⟩,
⟨(some 107),(.q (.bin .leq (.p .int) (.t 105) (.t 106))),none,3⟩,
⟨(some 108),(.q (.mv (.t 107))),none,7⟩,
⟨(some 109),(.q (.mv (.t 4))),(some (108,true)),15⟩,
⟨(some 110),(.q (.mv (.t 0))),(some (108,true)),15⟩,
⟨(some 111),(.q (.mv (.t 12))),(some (108,true)),15⟩,
⟨(some 112),(.q (.iaddr (.slice 1) (.t 110) (.t 111))),(some (108,true)),111⟩,
⟨(some 113),(.q (.ld false 1 (.t 112))),(some (108,true)),239⟩,
⟨(some 114),(.q (.mv (.t 0))),(some (108,true)),15⟩,
⟨(some 115),(.q (.mv (.t 1))),(some (108,true)),15⟩,
⟨(some 116),(.q (.iaddr (.slice 1) (.t 114) (.t 115))),(some (108,true)),1551⟩,
⟨(some 117),(.q (.ld false 1 (.t 116))),(some (108,true)),3599⟩,
⟨(some 118),(.x (.call (.t 109) [(.t 113),(.t 117)])),(some (108,true)),8191⟩,
⟨(some 119),(.q (.bin .lss (.p .int) (.t 118) (.c (.int .i64 (.ofNat 0))))),(some (108,true)),16383⟩,
⟨(some 120),(.q (.pick (.t 108) (.t 119) (.c (.bool false)))),none,32767⟩])
(.cond (.t 120) .skip (.exit 6)))
(.block 7 (.reg [⟨(some 121),(.q (.mv (.t 12))),none,0⟩,
⟨(some 122),(.q (.bin .add (.p .int) (.t 121) (.c (.int .i64 (.ofNat 1))))),none,0⟩,
⟨(some 12),(.q (.mv (.t 122))),none,0⟩])))))
(.seq (.block 8 (.loop (.seq (.seq (.drw [⟨(some 123),(.q (.mv (.t 12))),none,0⟩,
⟨(some 124),(.q (.mv (.t 13))),none,0⟩,
⟨(some 125),(.q (.bin .leq (.p .int) (.t 123) (.t 124))),none,3⟩,
⟨(some 126),(.q (.mv (.t 125))),none,7⟩,
⟨(some 127),(.q (.mv (.t 4))),(some (126,true)),15⟩,
⟨(some 128),(.q (.mv (.t 0))),(some (126,true)),15⟩,
⟨(some 129),(.q (.mv (.t 13))),(some (126,true)),15⟩,
⟨(some 130),(.q (.iaddr (.slice 1) (.t 128) (.t 129))),(some (126,true)),111⟩,
⟨(some 131),(.q (.ld false 1 (.t 130))),(some (126,true)),239⟩,
⟨(some 132),(.q (.mv (.t 0))),(some (126,true)),15⟩,
⟨(some 133),(.q (.mv (.t 1))),(some (126,true)),15⟩,
⟨(some 134),(.q (.iaddr (.slice 1) (.t 132) (.t 133))),(some (126,true)),1551⟩,
⟨(some 135),(.q (.ld false 1 (.t 134))),(some (126,true)),3599⟩,
⟨(some 136),(.x (.call (.t 127) [(.t 131),(.t 135)])),(some (126,true)),8191⟩,
⟨(some 137),(.q (.bin .lss (.p .int) (.t 136) (.c (.int .i64 (.ofNat 0))))),(some (126,true)),16383⟩,
⟨(some 138),(.q (.un .not (.t 137))),(some (126,true)),32767⟩,
⟨(some 139),(.q (.pick (.t 126) (.t 138) (.c (.bool false)))),none,65535⟩])
(.cond (.t 139) .skip (.exit 8)))
(.block 9 (.reg [⟨(some 140),(.q (.mv (.t 13))),none,0⟩,
⟨(some 141),(.q (.bin .sub (.p .int) (.t 140) (.c (.int .i64 (.ofNat 1))))),none,0⟩,
⟨(some 13),(.q (.mv (.t 141))),none,0⟩])))))
(.seq (.seq (.reg [⟨(some 142),(.q (.mv (.t 12))),none,0⟩,
⟨(some 143),(.q (.mv (.t 13))),none,0⟩,
⟨(some 144),(.q (.bin .gtr (.p .int) (.t 142) (.t 143))),none,0⟩])
(.cond (.t 144) (.exit 4) .skip))
(.seq (.drw [⟨(some 145),(.q (.mv (.t 0))),none,0⟩,
⟨(some 146),(.q (.mv (.t 12))),none,0⟩,
⟨(some 147),(.q (.mv (.t 0))),none,0⟩,
⟨(some 148),(.q (.mv (.t 13))),none,0⟩,
⟨(some 149),(.q (.mv (.t 0))),none,0⟩,
⟨(some 150),(.q (.mv (.t 13))),none,0⟩,
⟨(some 151),(.q (.iaddr (.slice 1) (.t 149) (.t 150))),none,48⟩,
⟨(some 152),(.q (.ld false 1 (.t 151))),none,112⟩,
⟨(some 153),(.q (.mv (.t 0))),none,0⟩,
⟨(some 154),(.q (.mv (.t 12))),none,0⟩,
⟨(some 155),(.q (.iaddr (.slice 1) (.t 153) (.t 154))),none,768⟩,
⟨(some 156),(.q (.ld false 1 (.t 155))),none,1792⟩,
⟨(some 157),(.q (.iaddr (.slice 1) (.t 145) (.t 146))),none,4083⟩,
⟨none,(.x (.st 1 (.t 157) (.t 152))),none,8179⟩,
⟨(some 158),(.q (.iaddr (.slice 1) (.t 147) (.t 148))),none,16383⟩,
⟨none,(.x (.st 1 (.t 158) (.t 156))),none,32767⟩])
(.seq (.reg [⟨(some 159),(.q (.mv (.t 12))),none,0⟩,
⟨(some 160),(.q (.bin .add (.p .int) (.t 159) (.c (.int .i64 (.ofNat 1))))),none,0⟩,
⟨(some 12),(.q (.mv (.t 160))),none,0⟩])
(.reg [⟨(some 161),(.q (.mv (.t 13))),none,0⟩,
⟨(some 162),(.q (.bin .sub (.p .int) (.t 161) (.c (.int .i64 (.ofNat 1))))),none,0⟩,
⟨(some 13),(.q (.mv (.t 162))),none,0⟩])))))))))
(.seq (.drw [⟨(some 163),(.q (.mv (.t 0))),none,0⟩,
⟨(some 164),(.q (.mv (.t 13))),none,0⟩,
⟨(some 165),(.q (.mv (.t 0))),none,0⟩,
⟨(some 166),(.q (.mv (.t 1))),none,0⟩,
⟨(some 167),(.q (.mv (.t 0))),none,0⟩,
⟨(some 168),(.q (.mv (.t 1))),none,0⟩,
⟨(some 169),(.q (.iaddr (.slice 1) (.t 167) (.t 168))),none,48⟩,
⟨(some 170),(.q (.ld false 1 (.t 169))),none,112⟩,
⟨(some 171),(.q (.mv (.t 0))),none,0⟩,
⟨(some 172),(.q (.mv (.t 13))),none,0⟩,
⟨(some 173),(.q (.iaddr (.slice 1) (.t 171) (.t 172))),none,768⟩,
⟨(some 174),(.q (.ld false 1 (.t 173))),none,1792⟩,
⟨(some 175),(.q (.iaddr (.slice 1) (.t 163) (.t 164))),none,4083⟩,
⟨none,(.x (.st 1 (.t 175) (.t 170))),none,8179⟩,
⟨(some 176),(.q (.iaddr (.slice 1) (.t 165) (.t 166))),none,16383⟩,
⟨none,(.x (.st 1 (.t 176) (.t 174))),none,32767⟩])
(.seq (.reg [⟨(some 177),(.q (.mv (.t 13))),none,0⟩,
⟨(some 10),(.q (.mv (.t 177))),none,0⟩,
⟨(some 11),(.q (.mv (.c (.bool false)))),none,0⟩])
.ret))))))))))))⟩
theorem row91 : Row Tryd.prog (91, a91) := ⟨Tryd.f91, Tryd.func91, by kernel_rfl⟩
noncomputable def a92 : AFn :=
⟨19,[(.t 2)],(.seq (.reg [⟨(some 2),(.q (.mv (.c (.int .i64 (.ofNat 0))))),none,0⟩])
(.seq (.seq (.reg [⟨(some 3),(.q (.mv (.t 0))),none,0⟩,
⟨(some 4),(.q (.bin .geq (.p .int) (.t 3) (.c (.int .u32 (.ofNat 65536))))),none,0⟩])
(.cond (.t 4) (.seq (.reg [⟨(some 5),(.q (.mv (.t 0))),none,0⟩,
⟨(some 6),(.q (.bin .shr (.p .int) (.t 5) (.c (.int .u64 (.ofNat 16))))),none,0⟩,
⟨(some 0),(.q (.mv (.t 6))),none,0⟩])
(.reg [⟨(some 2),(.q (.mv (.c (.int .i64 (.ofNat 16))))),none,0⟩])) .skip))
(.seq (.seq (.reg [⟨(some 7),(.q (.mv (.t 0))),none,0⟩,
⟨(some 8),(.q (.bin .geq (.p .int) (.t 7) (.c (.int .u32 (.ofNat 256))))),none,0⟩])
(.cond (.t 8) (.seq (.reg [⟨(some 9),(.q (.mv (.t 0))),none,0⟩,
⟨(some 10),(.q (.bin .shr (.p .int) (.t 9) (.c (.int .u64 (.ofNat 8))))),none,0⟩,
⟨(some 0),(.q (.mv (.t 10))),none,0⟩])
(.reg [⟨(some 11),(.q (.mv (.t 2))),none,0⟩,
⟨(some 12),(.q (.bin .add (.p .int) (.t 11) (.c (.int .i64 (.ofNat 8))))),none,0⟩,
⟨(some 2),(.q (.mv (.t 12))),none,0⟩])) .skip))
(.seq (.reg [⟨(some 13),(.q (.mv (.t 2))),none,0⟩,
⟨(some 14),(.q (.mv (.t 0))),none,0⟩,
⟨(some 15),(.q (.conv (.int .u8) (.t 14))),none,0⟩,
⟨(some 16),(.q (.idxStr (.c (.str [0,1,2,2,3,3,3,3,4,4,4,4,4,4,4,4,5,5,5,5,5,5,5,5,5,5,5,5,5,5,5,5,6,6,6,6,6,6,6,6,6,6,6,6,6,6,6,6,6,6,6,6,6,6,6,6,6,6,6,6,6,6,6,6,7,7,7,7,7,7,7,7,7,7,7,7,7,7,7,7,7,7,7,7,7,7,7,7,7,7,7,7,7,7,7,7,7,7,7,7,7,7,7,7,7,7,7,7,7,7,7,7,7,7,7,7,7,7,7,7,7,7,7,7,7,7,7,7,8,8,8,8,8,8,8,8,8,8,8,8,8,8,8,8,8,8,8,8,8,8,8,8,8,8,8,8,8,8,8,8,8,8,8,8,8,8,8,8,8,8,8,8,8,8,8,8,8,8,8,8,8,8,8,8,8,8,8,8,8,8,8,8,8,8,8,8,8,8,8,8,8,8,8,8,8,8,8,8,8,8,8,8,8,8,8,8,8,8,8,8,8,8,8,8,8,8,8,8,8,8,8,8,8,8,8,8,8,8,8,8,8,8,8,8,8,8,8,8,8,8,8,8,8,8,8,8])) (.t 15))),none,0⟩,
⟨(some 17),(.q (.conv (.int .i64) (.t 16))),none,0⟩,
⟨(some 18),(.q (.bin .add (.p .int) (.t 13) (.t 17))),none,0⟩,
⟨(some 2),(.q (.mv (.t 18))),none,0⟩])
.ret))))⟩
theorem row92 : Row Tryd.prog (92, a92) := ⟨Tryd.f92, Tryd.func92, by kernel_rfl⟩
noncomputable def a93 : AFn :=
⟨25,[(.t 2)],(.seq (.reg [⟨(some 2),(.q (.mv (.c (.int .i64 (.ofNat 0))))),none,0⟩])
(.seq (.seq (.reg [⟨(some 3),(.q (.mv (.t 0))),none,0⟩,
⟨(some 4),(.q (.bin .geq (.p .int) (.t 3) (.c (.int .u64 (.ofNat 4294967296))))),none,0⟩])
(.cond (.t 4) (.seq (.reg [⟨(some 5),(.q (.mv (.t 0))),none,0⟩,
⟨(some 6),(.q (.bin .shr (.p .int) (.t 5) (.c (.int .u64 (.ofNat 32))))),none,0⟩,
⟨(some 0),(.q (.mv (.t 6))),none,0⟩])
(.reg [⟨(some 2),(.q (.mv (.c (.int .i64 (.ofNat 32))))),none,0⟩])) .skip))
(.seq (.seq (.reg [⟨(some 7),(.q (.mv (.t 0))),none,0⟩,
⟨(some 8),(.q (.bin .geq (.p .int) (.t 7) (.c (.int .u64 (.ofNat 65536))))),none,0⟩])
(.cond (.t 8) (.seq (.reg [⟨(some 9),(.q (.mv (.t 0))),none,0⟩,
⟨(some 10),(.q (.bin .shr (.p .int) (.t 9) (.c (.int .u64 (.ofNat 16))))),none,0⟩,
⟨(some 0),(.q (.mv (.t 10))),none,0⟩])
(.reg [⟨(some 11),(.q (.mv (.t 2))),none,0⟩,
⟨(some 12),(.q (.bin .add (.p .int) (.t 11) (.c (.int .i64 (.ofNat 16))))),none,0⟩,
⟨(some 2),(.q (.mv (.t 12))),none,0⟩])) .skip))
(.seq (.seq (.reg [⟨(some 13),(.q (.mv (.t 0))),none,0⟩,
⟨(some 14),(.q (.bin .geq (.p .int) (.t 13) (.c (.int .u64 (.ofNat 256))))),none,0⟩])
(.cond (.t 14) (.seq (.reg [⟨(some 15),(.q (.mv (.t 0))),none,0⟩,
⟨(some 16),(.q (.bin .shr (.p .int) (.t 15) (.c (.int .u64 (.ofNat 8))))),none,0⟩,
⟨(some 0),(.q (.mv (.t 16))),none,0⟩])
(.reg [⟨(some 17),(.q (.mv (.t 2))),none,0⟩,
⟨(some 18),(.q (.bin .add (.p .int) (.t 17) (.c (.int .i64 (.ofNat 8))))),none,0⟩,
⟨(some 2),(.q (.mv (.t 18))),none,0⟩])) .skip))
(.seq (.reg [⟨(some 19),(.q (.mv (.t 2))),none,0⟩,
⟨(some 20),(.q (.mv (.t 0))),none,0⟩,
⟨(some 21),(.q (.conv (.int .u8) (.t 20))),none,0⟩,
⟨(some 22),(.q (.idxStr (.c (.str [0,1,2,2,3,3,3,3,4,4,4,4,4,4,4,4,5,5,5,5,5,5,5,5,5,5,5,5,5,5,5,5,6,6,6,6,6,6,6,6,6,6,6,6,6,6,6,6,6,6,6,6,6,6,6,6,6,6,6,6,6,6,6,6,7,7,7,7,7,7,7,7,7,7,7,7,7,7,7,7,7,7,7,7,7,7,7,7,7,7,7,7,7,7,7,7,7,7,7,7,7,7,7,7,7,7,7,7,7,7,7,7,7,7,7,7,7,7,7,7,7,7,7,7,7,7,7,7,8,8,8,8,8,8,8,8,8,8,8,8,8,8,8,8,8,8,8,8,8,8,8,8,8,8,8,8,8,8,8,8,8,8,8,8,8,8,8,8,8,8,8,8,8,8,8,8,8,8,8,8,8,8,8,8,8,8,8,8,8,8,8,8,8,8,8,8,8,8,8,8,8,8,8,8,8,8,8,8,8,8,8,8,8,8,8,8,8,8,8,8,8,8,8,8,8,8,8,8,8,8,8,8,8,8,8,8,8,8,8,8,8,8,8,8,8,8,8,8,8,8,8,8,8,8,8,8])) (.t 21))),none,0⟩,
⟨(some 23),(.q (.conv (.int .i64) (.t 22))),none,0⟩,
⟨(some 24),(.q (.bin .add (.p .int) (.t 19) (.t 23))),none,0⟩,
⟨(some 2),(.q (.mv (.t 24))),none,0⟩])
.ret)))))⟩
theorem row93 : Row Tryd.prog (93, a93) := ⟨Tryd.f93, Tryd.func93, by kernel_rfl⟩
noncomputable def a94 : AFn :=
⟨10,[(.t 6)],(.seq (.reg [⟨(some 3),(.a (.box 3 (.t 0))),none,0⟩,
⟨(some 4),(.a (.box 3 (.t 1))),none,0⟩,
⟨(some 6),(.q (.mv (.c (.int .i64 (.ofNat 0))))),none,0⟩])
(.seq (.seq (.reg [⟨(some 7),(.q (.mv (.t 2))),none,0⟩,
⟨(some 8),(.q (.mkFunc 104 [] [(.t 3),(.t 4)])),none,0⟩,
⟨(some 9),(.x (.call (.c (.fn 103 [] [])) [(.t 7),(.t 8)])),none,0⟩])
(.cond (.t 9) (.seq (.reg [⟨(some 6),(.q (.mv (.c (.int .i64 (.ofNat 2))))),none,0⟩])
.ret) .skip))
(.seq (.reg [⟨(some 6),(.q (.mv (.c (.int .i64 (.ofNat 0))))),none,0⟩])
.ret)))⟩
theorem row94 : Row Tryd.prog (94, a94) := ⟨Tryd.f94, Tryd.func94, by kernel_rfl⟩
noncomputable def a95 : AFn :=
⟨19,[(.t 4)],(.seq (.reg [⟨(some 4),(.q (.mv (.c (.int .i64 (.ofNat 0))))),none,0⟩])
(.seq (.seq (.reg [⟨(some 6),(.q (.mv (.t 0))),none,0⟩,
⟨(some 7),(.q (.lenSl (.t 6))),none,0⟩,
⟨(some 8),(.q (.mv (.c (.int .i64 (.ofNat 0))))),none,0⟩])
(.block 0 (.loop (.seq (.reg [⟨(some 9),(.q (.bin .lss (.p .int) (.t 8) (.t 7))),none,0⟩])
(.seq (.cond (.t 9) .skip (.exit 0))
(.seq (.block 1 (.seq (.reg [⟨(some 10),(.q (.mv (.t 8))),none,0⟩,
⟨(some 5),(.q (.mv (.t 10))),none,0⟩])
(.seq (.reg [⟨(some 11),(.q (.mv (.t 1))),none,0⟩,
⟨(some 12),(.q (.mv (.t 0))),none,0⟩,
⟨(some 13),(.q (.mv (.t 5))),none,0⟩,
⟨(some 14),(.q (.iaddr (.slice 1) (.t 12) (.t 13))),none,0⟩,
⟨(some 15),(.q (.ld false 1 (.t 14))),none,0⟩,
⟨(some 16),(.q (.bin .eql (.p .int) (.t 11) (.t 15))),none,0⟩])
(.cond (.t 16) (.seq (.reg [⟨(some 17),(.q (.mv (.t 5))),none,0⟩,
⟨(some 4),(.q (.mv (.t 17))),none,0⟩])
.ret) .skip))))
(.reg [⟨(some 18),(.q (.bin .add (.p .int) (.t 8) (.c (.int .i64 (.ofNat 1))))),none,0⟩,
⟨(some 8),(.q (.mv (.t 18))),none,0⟩])))))))
(.seq (.reg [⟨(some 4),(.q (.mv (.c (.int .i64 (.negSucc 0))))),none,0⟩])
.ret)))⟩
theorem row95 : Row Tryd.prog (95, a95) := ⟨Tryd.f95, Tryd.func95, by kernel_rfl⟩
noncomputable def a96 : AFn :=
⟨17,[(.t 4)],(.seq (.reg [⟨(some 4),(.q (.mv (.c (.bool false)))),none,0⟩])
(.seq (.reg [⟨(some 5),(.q (.mv (.t 0))),none,0⟩,
⟨(some 6),(.x (.call (.c (.fn 73 [] [])) [(.t 5)])),none,0⟩,
⟨(some 7),(.q (.mv (.t 6))),none,0⟩,
⟨(some 8),(.q (.mv (.t 1))),(some (7,true)),0⟩,
⟨(some 9),(.x (.call (.c (.fn 73 [] [])) [(.t 8)])),(some (7,true)),0⟩,
⟨(some 10),(.q (.un .not (.t 9))),(some (7,true)),0⟩,
⟨(some 11),(.q (.pick (.t 7) (.t 10) (.c (.bool false)))),none,0⟩,
⟨(some 12),(.q (.mv (.t 11))),none,0⟩,
⟨(some 13),(.q (.mv (.t 0))),(some (12,false)),0⟩,
⟨(some 14),(.q (.mv (.t 1))),(some (12,false)),0⟩,
⟨(some 15),(.q (.bin .lss (.p .int) (.t 13) (.t 14))),(some (12,false)),0⟩,
⟨(some 16),(.q (.pick (.t 12) (.c (.bool true)) (.t 15))),none,0⟩,
⟨(some 4),(.q (.mv (.t 16))),none,0⟩])
.ret))⟩
theorem row96 : Row Tryd.prog (96, a96) := ⟨Tryd.f96, Tryd.func96, by kernel_rfl⟩
noncomputable def a97 : AFn :=
⟨36,[(.t 6)],(.seq (.reg [⟨(some 6),(.q (.mv (.c .nilsl))),none,0⟩])
(.seq (.seq (.reg [⟨(some 9),(.q (.mv (.t 2))),none,0⟩,
⟨(some 10),(.q (.bin .eql (.p .int) (.t 9) (.c (.int .i64 (.ofNat 10))))),none,0⟩])
(.cond (.t 10) (.seq (.seq (.reg [⟨(some 11),(.q (.mv (.t 1))),none,0⟩,
⟨(some 12),(.q (.bin .lss (.p .int) (.t 11) (.c (.int .u64 (.ofNat 100))))),none,0⟩])
(.cond (.t 12) (.seq (.reg [⟨(some 13),(.q (.mv (.t 0))),none,0⟩,
⟨(some 14),(.q (.mv (.t 1))),none,0⟩,
⟨(some 15),(.q (.conv (.int .i64) (.t 14))),none,0⟩,
⟨(some 16),(.x (.call (.c (.fn 105 [] [])) [(.t 15)])),none,0⟩,
⟨(some 17),(.x (.app 5 1 1 (.t 13) (.t 16))),none,0⟩,
⟨(some 6),(.q (.mv (.t 17))),none,0⟩])
.ret) .skip))
(.seq (.reg [⟨(some 7),(.a (.alloc 147 (repeatL [(.int .u8 (.ofNat 0))] 24))),none,0⟩])
(.seq (.reg [⟨(some 18),(.q (.mv (.t 1))),none,0⟩,
⟨(some 19),(.x (.call (.c (.fn 106 [] [])) [(.t 18)])),none,0⟩,
⟨(some 8),(.q (.mv (.t 19))),none,0⟩])
(.seq (.reg [⟨(some 20),(.q (.mv (.t 8))),none,0⟩,
⟨(some 21),(.q (.slc (.arr 24 1) (.t 7) none (some (.t 20)) none)),none,0⟩,
⟨(some 22),(.q (.mv (.t 1))),none,0⟩,
⟨(some 23),(.x (.call (.c (.fn 107 [] [])) [(.t 21),(.t 22)])),none,0⟩])
(.seq (.reg [⟨(some 24),(.q (.mv (.t 0))),none,0⟩,
⟨(some 25),(.q (.mv (.t 8))),none,0⟩,
⟨(some 26),(.q (.slc (.arr 24 1) (.t 7) none (some (.t 25)) none)),none,0⟩,
⟨(some 27),(.x (.app 5 1 1 (.t 24) (.t 26))),none,0⟩,
⟨(some 6),(.q (.mv (.t 27))),none,0⟩])
.ret))))) .skip))
(.seq (.reg [⟨(some 29),(.q (.mv (.t 0))),none,0⟩,
⟨(some 30),(.q (.mv (.t 1))),none,0⟩,
⟨(some 31),(.q (.mv (.t 2))),none,0⟩,
⟨(some 32),(.x (.call (.c (.fn 108 [] [])) [(.t 29),(.t 30),(.t 31),(.c (.bool false)),(.c (.bool true))])),none,0⟩,
⟨(some 28),(.q (.mv (.t 32))),none,0⟩,
⟨(some 33),(.q (.extract (.t 28) 0)),none,0⟩,
⟨(some 34),(.q (.extract (.t 28) 1)),none,0⟩,
⟨(some 0),(.q (.mv (.t 33))),none,0⟩])
(.seq (.reg [⟨(some 35),(.q (.mv (.t 0))),none,0⟩,
⟨(some 6),(.q (.mv (.t 35))),none,0⟩])
.ret))))⟩
theorem row97 : Row Tryd.prog (97, a97) := ⟨Tryd.f97, Tryd.func97, by kernel_rfl⟩
noncomputable def a98 : AFn :=
⟨82,[],(.seq (.reg [⟨(some 12),(.q (.mv (.t 1))),none,0⟩,
⟨(some 10),(.q (.mv (.t 12))),none,0⟩])
(.block 0 (.loop (.block 1 (.seq (.reg [⟨(some 13),(.q (.mv (.t 10))),none,0⟩,
⟨(some 14),(.q (.bin .mul (.p .int) (.c (.int .i64 (.ofNat 2))) (.t 13))),none,0⟩,
⟨(some 15),(.q (.bin .add (.p .int) (.t 14) (.c (.int .i64 (.ofNat 1))))),none,0⟩,
⟨(some 11),(.q (.mv (.t 15))),none,0⟩])
(.seq (.seq (.reg [⟨(some 16),(.q (.mv (.t 11))),none,0⟩,
⟨(some 17),(.q (.mv (.t 2))),none,0⟩,
⟨(some 18),(.q (.bin .geq (.p .int) (.t 16) (.t 17))),none,0⟩])
(.cond (.t 18) (.exit 0) .skip))
(.seq (.seq (.drw [⟨(some 19),(.q (.mv (.t 11))),none,0⟩,
⟨(some 20),(.q (.bin .add (.p .int) (.t 19) (.c (.int .i64 (.ofNat 1))))),none,1⟩,
⟨(some 21),(.q (.mv (.t 2))),none,0⟩,
⟨(some 22),(.q (.bin .lss (.p .int) (.t 20) (.t 21))),none,7⟩,
⟨(some 23),(.q (.mv (.t 22))),none,15⟩,
⟨(some 24),(.q (.mv (.t 4))),(some (23,true)),31⟩,
⟨(some 25),(.q (.mv (.t 0))),(some (23,true)),31⟩,
⟨(some 26),(.q (.mv (.t 3))),(some (23,true)),31⟩,
⟨(some 27),(.q (.mv (.t 11))),(some (23,true)),31⟩,
⟨(some 28),(.q (.bin .add (.p .int) (.t 26) (.t 27))),(some (23,true)),415⟩,
⟨(some 29),(.q (.iaddr (.slice 1) (.t 25) (.t 28))),(some (23,true)),991⟩,
⟨(some 30),(.q (.ld false 1 (.t 29))),(some (23,true)),2015⟩,
⟨(some 31),(.q (.mv (.t 0))),(some (23,true)),31⟩,
⟨(some 32),(.q (.mv (.t 3))),(some (23,true)),31⟩,
⟨(some 33),(.q (.mv (.t 11))),(some (23,true)),31⟩,
⟨(some 34),(.q (.bin .add (.p .int) (.t 32) (.t 33))),(some (23,true)),24607⟩,
⟨(some 35),(.q (.bin .add (.p .int) (.t 34) (.c (.int .i64 (.ofNat 1))))),(some (23,true)),57375⟩,
⟨(some 36),(.q (.iaddr (.slice 1) (.t 31) (.t 35))),(some (23,true)),127007⟩,
⟨(some 37),(.q (.ld false 1 (.t 36))),(some (23,true)),258079⟩,
⟨(some 38),(.x (.call (.t 24) [(.t 30),(.t 37)])),(some (23,true)),524287⟩,
⟨(some 39),(.q (.bin .lss (.p .int) (.t 38) (.c (.int .i64 (.ofNat 0))))),(some (23,true)),1048575⟩,
⟨(some 40),(.q (.pick (.t 23) (.t 39) (.c (.bool false)))),none,2097151⟩])
(.cond (.t 40) (.reg [⟨(some 41),(.q (.mv (.t 11))),none,0⟩,
⟨(some 42),(.q (.bin .add (.p .int) (.t 41) (.c (.int .i64 (.ofNat 1))))),none,0⟩,
⟨(some 11),(.q (.mv (.t 42))),none,0⟩]) .skip))
(.seq (.seq (.drw [⟨(some 43),(.q (.mv (.t 4))),none,0⟩,
⟨(some 44),(.q (.mv (.t 0))),none,0⟩,
⟨(some 45),(.q (.mv (.t 3))),none,0⟩,
⟨(some 46),(.q (.mv (.t 10))),none,0⟩,
⟨(some 47),(.q (.bin .add (.p .int) (.t 45) (.t 46))),none,12⟩,
⟨(some 48),(.q (.iaddr (.slice 1) (.t 44) (.t 47))),none,30⟩,
⟨(some 49),(.q (.ld false 1 (.t 48))),none,62⟩,
⟨(some 50),(.q (.mv (.t 0))),none,0⟩,
⟨(some 51),(.q (.mv (.t 3))),none,0⟩,
⟨(some 52),(.q (.mv (.t 11))),none,0⟩,
⟨(some 53),(.q (.bin .add (.p .int) (.t 51) (.t 52))),none,768⟩,
⟨(some 54),(.q (.iaddr (.slice 1) (.t 50) (.t 53))),none,1920⟩,
⟨(some 55),(.q (.ld false 1 (.t 54))),none,3968⟩,
⟨(some 56),(.x (.call (.t 43) [(.t 49),(.t 55)])),none,8191⟩,
⟨(some 57),(.q (.bin .lss (.p .int) (.t 56) (.c (.int .i64 (.ofNat 0))))),none,16383⟩,
⟨(some 58),(.q (.un .not (.t 57))),none,32767⟩])
(.cond (.t 58) .ret .skip))
(.seq (.drw [⟨(some 59),(.q (.mv (.t 0))),none,0⟩,
⟨(some 60),(.q (.mv (.t 3))),none,0⟩,
⟨(some 61),(.q (.mv (.t 10))),none,0⟩,
⟨(some 62),(.q (.bin .add (.p .int) (.t 60) (.t 61))),none,6⟩,
⟨(some 63),(.q (.mv (.t 0))),none,0⟩,
⟨(some 64),(.q (.mv (.t 3))),none,0⟩,
⟨(some 65),(.q (.mv (.t 11))),none,0⟩,
⟨(some 66),(.q (.bin .add (.p .int) (.t 64) (.t 65))),none,96⟩,
⟨(some 67),(.q (.mv (.t 0))),none,0⟩,
⟨(some 68),(.q (.mv (.t 3))),none,0⟩,
⟨(some 69),(.q (.mv (.t 11))),none,0⟩,
⟨(some 70),(.q (.bin .add (.p .int) (.t 68) (.t 69))),none,1536⟩,
⟨(some 71),(.q (.iaddr (.slice 1) (.t 67) (.t 70))),none,3840⟩,
⟨(some 72),(.q (.ld false 1 (.t 71))),none,7936⟩,
⟨(some 73),(.q (.mv (.t 0))),none,0⟩,
⟨(some 74),(.q (.mv (.t 3))),none,0⟩,
⟨(some 75),(.q (.mv (.t 10))),none,0⟩,
⟨(some 76),(.q (.bin .add (.p .int) (.t 74) (.t 75))),none,98304⟩,
⟨(some 77),(.q (.iaddr (.slice 1) (.t 73) (.t 76))),none,245760⟩,
⟨(some 78),(.q (.ld false 1 (.t 77))),none,507904⟩,
⟨(some 79),(.q (.iaddr (.slice 1) (.t 59) (.t 62))),none,1048335⟩,
⟨none,(.x (.st 1 (.t 79) (.t 72))),none,2096911⟩,
⟨(some 80),(.q (.iaddr (.slice 1) (.t 63) (.t 66))),none,4194303⟩,
⟨none,(.x (.st 1 (.t 80) (.t 78))),none,8388607⟩])
(.reg [⟨(some 81),(.q (.mv (.t 11))),none,0⟩,
⟨(some 10),(.q (.mv (.t 81))),none,0⟩]))))))))))⟩
theorem row98 : Row Tryd.prog (98, a98) := ⟨Tryd.f98, Tryd.func98, by kernel_rfl⟩
end Go.Proofs.YtfmgnnfghdjpfaaDoor.mergeNames
