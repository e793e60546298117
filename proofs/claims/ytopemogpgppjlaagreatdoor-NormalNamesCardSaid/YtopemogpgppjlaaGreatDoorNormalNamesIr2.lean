/- The functions that NormalNames reaches, as data of the evaluator (part 2), written by program; each is shown to be the compiler's result on the loaded function. -/
import Derived.Test.YtopemogpgppjlaaGreatDoorProg
import Derived.Test.YtopemogpgppjlaaGreatDoorEv7
import Derived.KernelRfl
namespace Go.Proofs.YtopemogpgppjlaaGreatDoor.normalNames
open Go.Ev
set_option maxRecDepth 100000
noncomputable def a198 : AFn :=
⟨56,[],(.seq (.reg [⟨(some 11),(.q (.mv (.t 1))),none,0⟩,
⟨(some 6),(.q (.mv (.t 11))),none,0⟩])
(.seq (.reg [⟨(some 7),(.q (.mv (.c (.int .i64 (.ofNat 0))))),none,0⟩])
(.seq (.reg [⟨(some 12),(.q (.mv (.t 2))),none,0⟩,
⟨(some 13),(.q (.mv (.t 1))),none,0⟩,
⟨(some 14),(.q (.bin .sub (.p .int) (.t 12) (.t 13))),none,0⟩,
⟨(some 8),(.q (.mv (.t 14))),none,0⟩])
(.seq (.seq (.reg [⟨(some 15),(.q (.mv (.t 8))),none,0⟩,
⟨(some 16),(.q (.bin .sub (.p .int) (.t 15) (.c (.int .i64 (.ofNat 1))))),none,0⟩,
⟨(some 17),(.q (.bin .quo (.p .int) (.t 16) (.c (.int .i64 (.ofNat 2))))),none,0⟩,
⟨(some 9),(.q (.mv (.t 17))),none,0⟩])
(.block 0 (.loop (.seq (.seq (.reg [⟨(some 18),(.q (.mv (.t 9))),none,0⟩,
⟨(some 19),(.q (.bin .geq (.p .int) (.t 18) (.c (.int .i64 (.ofNat 0))))),none,0⟩])
(.cond (.t 19) .skip (.exit 0)))
(.seq (.block 1 (.reg [⟨(some 22),(.q (.mv (.t 0))),none,0⟩,
⟨(some 23),(.q (.mv (.t 9))),none,0⟩,
⟨(some 24),(.q (.mv (.t 8))),none,0⟩,
⟨(some 25),(.q (.mv (.t 6))),none,0⟩,
⟨(some 26),(.x (.call (.c (.fn 240 [] [])) [(.t 22),(.t 23),(.t 24),(.t 25)])),none,0⟩]))
(.reg [⟨(some 20),(.q (.mv (.t 9))),none,0⟩,
⟨(some 21),(.q (.bin .sub (.p .int) (.t 20) (.c (.int .i64 (.ofNat 1))))),none,0⟩,
⟨(some 9),(.q (.mv (.t 21))),none,0⟩]))))))
(.seq (.reg [⟨(some 27),(.q (.mv (.t 8))),none,0⟩,
⟨(some 28),(.q (.bin .sub (.p .int) (.t 27) (.c (.int .i64 (.ofNat 1))))),none,0⟩,
⟨(some 10),(.q (.mv (.t 28))),none,0⟩])
(.block 2 (.loop (.seq (.seq (.reg [⟨(some 29),(.q (.mv (.t 10))),none,0⟩,
⟨(some 30),(.q (.bin .geq (.p .int) (.t 29) (.c (.int .i64 (.ofNat 0))))),none,0⟩])
(.cond (.t 30) .skip (.exit 2)))
(.seq (.block 3 (.seq (.drw [⟨(some 33),(.q (.mv (.t 0))),none,0⟩,
⟨(some 34),(.q (.mv (.t 6))),none,0⟩,
⟨(some 35),(.q (.mv (.t 0))),none,0⟩,
⟨(some 36),(.q (.mv (.t 6))),none,0⟩,
⟨(some 37),(.q (.mv (.t 10))),none,0⟩,
⟨(some 38),(.q (.bin .add (.p .int) (.t 36) (.t 37))),none,24⟩,
⟨(some 39),(.q (.mv (.t 0))),none,0⟩,
⟨(some 40),(.q (.mv (.t 6))),none,0⟩,
⟨(some 41),(.q (.mv (.t 10))),none,0⟩,
⟨(some 42),(.q (.bin .add (.p .int) (.t 40) (.t 41))),none,384⟩,
⟨(some 43),(.q (.iaddr (.slice 1) (.t 39) (.t 42))),none,960⟩,
⟨(some 44),(.q (.ld false 1 (.t 43))),none,1984⟩,
⟨(some 45),(.q (.mv (.t 0))),none,0⟩,
⟨(some 46),(.q (.mv (.t 6))),none,0⟩,
⟨(some 47),(.q (.iaddr (.slice 1) (.t 45) (.t 46))),none,12288⟩,
⟨(some 48),(.q (.ld false 1 (.t 47))),none,28672⟩,
⟨(some 49),(.q (.iaddr (.slice 1) (.t 33) (.t 34))),none,65475⟩,
⟨none,(.x (.st 1 (.t 49) (.t 44))),none,131011⟩,
⟨(some 50),(.q (.iaddr (.slice 1) (.t 35) (.t 38))),none,262143⟩,
⟨none,(.x (.st 1 (.t 50) (.t 48))),none,524287⟩])
(.reg [⟨(some 51),(.q (.mv (.t 0))),none,0⟩,
⟨(some 52),(.q (.mv (.t 7))),none,0⟩,
⟨(some 53),(.q (.mv (.t 10))),none,0⟩,
⟨(some 54),(.q (.mv (.t 6))),none,0⟩,
⟨(some 55),(.x (.call (.c (.fn 240 [] [])) [(.t 51),(.t 52),(.t 53),(.t 54)])),none,0⟩])))
(.reg [⟨(some 31),(.q (.mv (.t 10))),none,0⟩,
⟨(some 32),(.q (.bin .sub (.p .int) (.t 31) (.c (.int .i64 (.ofNat 1))))),none,0⟩,
⟨(some 10),(.q (.mv (.t 32))),none,0⟩]))))))))))⟩
theorem row198 : Row Tryz.prog (198, a198) := ⟨Tryz.f198, Tryz.func198, by kernel_rfl⟩
noncomputable def a199 : AFn :=
⟨65,[],(.seq (.reg [⟨(some 11),(.q (.mv (.t 2))),none,0⟩,
⟨(some 12),(.q (.mv (.t 1))),none,0⟩,
⟨(some 13),(.q (.bin .sub (.p .int) (.t 11) (.t 12))),none,0⟩,
⟨(some 6),(.q (.mv (.t 13))),none,0⟩])
(.seq (.reg [⟨(some 14),(.q (.mv (.t 6))),none,0⟩,
⟨(some 15),(.q (.bin .geq (.p .int) (.t 14) (.c (.int .i64 (.ofNat 8))))),none,0⟩])
(.cond (.t 15) (.seq (.reg [⟨(some 16),(.q (.mv (.t 6))),none,0⟩,
⟨(some 17),(.q (.conv (.int .u64) (.t 16))),none,0⟩,
⟨(some 7),(.a (.alloc 290 [(.int .u64 (.ofNat 0))])),none,0⟩,
⟨none,(.x (.st 1 (.t 7) (.t 17))),none,0⟩])
(.seq (.reg [⟨(some 18),(.q (.mv (.t 6))),none,0⟩,
⟨(some 19),(.x (.call (.c (.fn 241 [] [])) [(.t 18)])),none,0⟩,
⟨(some 8),(.q (.mv (.t 19))),none,0⟩])
(.seq (.reg [⟨(some 20),(.q (.mv (.t 1))),none,0⟩,
⟨(some 21),(.q (.mv (.t 6))),none,0⟩,
⟨(some 22),(.q (.bin .quo (.p .int) (.t 21) (.c (.int .i64 (.ofNat 4))))),none,0⟩,
⟨(some 23),(.q (.bin .mul (.p .int) (.t 22) (.c (.int .i64 (.ofNat 2))))),none,0⟩,
⟨(some 24),(.q (.bin .add (.p .int) (.t 20) (.t 23))),none,0⟩,
⟨(some 25),(.q (.bin .sub (.p .int) (.t 24) (.c (.int .i64 (.ofNat 1))))),none,0⟩,
⟨(some 9),(.q (.mv (.t 25))),none,0⟩])
(.block 0 (.loop (.seq (.seq (.reg [⟨(some 26),(.q (.mv (.t 9))),none,0⟩,
⟨(some 27),(.q (.mv (.t 1))),none,0⟩,
⟨(some 28),(.q (.mv (.t 6))),none,0⟩,
⟨(some 29),(.q (.bin .quo (.p .int) (.t 28) (.c (.int .i64 (.ofNat 4))))),none,0⟩,
⟨(some 30),(.q (.bin .mul (.p .int) (.t 29) (.c (.int .i64 (.ofNat 2))))),none,0⟩,
⟨(some 31),(.q (.bin .add (.p .int) (.t 27) (.t 30))),none,0⟩,
⟨(some 32),(.q (.bin .add (.p .int) (.t 31) (.c (.int .i64 (.ofNat 1))))),none,0⟩,
⟨(some 33),(.q (.bin .leq (.p .int) (.t 26) (.t 32))),none,0⟩])
(.cond (.t 33) .skip (.exit 0)))
(.seq (.block 1 (.seq (.reg [⟨(some 36),(.x (.call (.c (.fn 242 [] [])) [(.t 7)])),none,0⟩,
⟨(some 37),(.q (.mv (.t 8))),none,0⟩,
⟨(some 38),(.q (.bin .sub (.p .int) (.t 37) (.c (.int .u64 (.ofNat 1))))),none,0⟩,
⟨(some 39),(.q (.bin .and (.p .int) (.t 36) (.t 38))),none,0⟩,
⟨(some 40),(.q (.conv (.int .i64) (.t 39))),none,0⟩,
⟨(some 10),(.q (.mv (.t 40))),none,0⟩])
(.seq (.seq (.reg [⟨(some 41),(.q (.mv (.t 10))),none,0⟩,
⟨(some 42),(.q (.mv (.t 6))),none,0⟩,
⟨(some 43),(.q (.bin .geq (.p .int) (.t 41) (.t 42))),none,0⟩])
(.cond (.t 43) (.reg [⟨(some 44),(.q (.mv (.t 10))),none,0⟩,
⟨(some 45),(.q (.mv (.t 6))),none,0⟩,
⟨(some 46),(.q (.bin .sub (.p .int) (.t 44) (.t 45))),none,0⟩,
⟨(some 10),(.q (.mv (.t 46))),none,0⟩]) .skip))
(.drw [⟨(some 47),(.q (.mv (.t 0))),none,0⟩,
⟨(some 48),(.q (.mv (.t 9))),none,0⟩,
⟨(some 49),(.q (.mv (.t 0))),none,0⟩,
⟨(some 50),(.q (.mv (.t 1))),none,0⟩,
⟨(some 51),(.q (.mv (.t 10))),none,0⟩,
⟨(some 52),(.q (.bin .add (.p .int) (.t 50) (.t 51))),none,24⟩,
⟨(some 53),(.q (.mv (.t 0))),none,0⟩,
⟨(some 54),(.q (.mv (.t 1))),none,0⟩,
⟨(some 55),(.q (.mv (.t 10))),none,0⟩,
⟨(some 56),(.q (.bin .add (.p .int) (.t 54) (.t 55))),none,384⟩,
⟨(some 57),(.q (.iaddr (.slice 1) (.t 53) (.t 56))),none,960⟩,
⟨(some 58),(.q (.ld false 1 (.t 57))),none,1984⟩,
⟨(some 59),(.q (.mv (.t 0))),none,0⟩,
⟨(some 60),(.q (.mv (.t 9))),none,0⟩,
⟨(some 61),(.q (.iaddr (.slice 1) (.t 59) (.t 60))),none,12288⟩,
⟨(some 62),(.q (.ld false 1 (.t 61))),none,28672⟩,
⟨(some 63),(.q (.iaddr (.slice 1) (.t 47) (.t 48))),none,65475⟩,
⟨none,(.x (.st 1 (.t 63) (.t 58))),none,131011⟩,
⟨(some 64),(.q (.iaddr (.slice 1) (.t 49) (.t 52))),none,262143⟩,
⟨none,(.x (.st 1 (.t 64) (.t 62))),none,524287⟩]))))
(.reg [⟨(some 34),(.q (.mv (.t 9))),none,0⟩,
⟨(some 35),(.q (.bin .add (.p .int) (.t 34) (.c (.int .i64 (.ofNat 1))))),none,0⟩,
⟨(some 9),(.q (.mv (.t 35))),none,0⟩])))))))) .skip)))⟩
theorem row199 : Row Tryz.prog (199, a199) := ⟨Tryz.f199, Tryz.func199, by kernel_rfl⟩
noncomputable def a200 : AFn :=
⟨57,[(.t 6),(.t 7)],(.seq (.reg [⟨(some 6),(.q (.mv (.c (.int .i64 (.ofNat 0))))),none,0⟩,
⟨(some 7),(.q (.mv (.c (.int .i64 (.ofNat 0))))),none,0⟩])
(.seq (.reg [⟨(some 13),(.q (.mv (.t 2))),none,0⟩,
⟨(some 14),(.q (.mv (.t 1))),none,0⟩,
⟨(some 15),(.q (.bin .sub (.p .int) (.t 13) (.t 14))),none,0⟩,
⟨(some 8),(.q (.mv (.t 15))),none,0⟩])
(.seq (.reg [⟨(some 9),(.a (.alloc 3 [(.int .i64 (.ofNat 0))])),none,0⟩])
(.seq (.reg [⟨(some 16),(.q (.mv (.t 1))),none,0⟩,
⟨(some 17),(.q (.mv (.t 8))),none,0⟩,
⟨(some 18),(.q (.bin .quo (.p .int) (.t 17) (.c (.int .i64 (.ofNat 4))))),none,0⟩,
⟨(some 19),(.q (.bin .mul (.p .int) (.t 18) (.c (.int .i64 (.ofNat 1))))),none,0⟩,
⟨(some 20),(.q (.bin .add (.p .int) (.t 16) (.t 19))),none,0⟩,
⟨(some 10),(.q (.mv (.t 20))),none,0⟩])
(.seq (.reg [⟨(some 21),(.q (.mv (.t 1))),none,0⟩,
⟨(some 22),(.q (.mv (.t 8))),none,0⟩,
⟨(some 23),(.q (.bin .quo (.p .int) (.t 22) (.c (.int .i64 (.ofNat 4))))),none,0⟩,
⟨(some 24),(.q (.bin .mul (.p .int) (.t 23) (.c (.int .i64 (.ofNat 2))))),none,0⟩,
⟨(some 25),(.q (.bin .add (.p .int) (.t 21) (.t 24))),none,0⟩,
⟨(some 11),(.q (.mv (.t 25))),none,0⟩])
(.seq (.reg [⟨(some 26),(.q (.mv (.t 1))),none,0⟩,
⟨(some 27),(.q (.mv (.t 8))),none,0⟩,
⟨(some 28),(.q (.bin .quo (.p .int) (.t 27) (.c (.int .i64 (.ofNat 4))))),none,0⟩,
⟨(some 29),(.q (.bin .mul (.p .int) (.t 28) (.c (.int .i64 (.ofNat 3))))),none,0⟩,
⟨(some 30),(.q (.bin .add (.p .int) (.t 26) (.t 29))),none,0⟩,
⟨(some 12),(.q (.mv (.t 30))),none,0⟩])
(.seq (.seq (.reg [⟨(some 31),(.q (.mv (.t 8))),none,0⟩,
⟨(some 32),(.q (.bin .geq (.p .int) (.t 31) (.c (.int .i64 (.ofNat 8))))),none,0⟩])
(.cond (.t 32) (.seq (.seq (.reg [⟨(some 33),(.q (.mv (.t 8))),none,0⟩,
⟨(some 34),(.q (.bin .geq (.p .int) (.t 33) (.c (.int .i64 (.ofNat 50))))),none,0⟩])
(.cond (.t 34) (.seq (.reg [⟨(some 35),(.q (.mv (.t 0))),none,0⟩,
⟨(some 36),(.q (.mv (.t 10))),none,0⟩,
⟨(some 37),(.x (.call (.c (.fn 243 [] [])) [(.t 35),(.t 36),(.t 9)])),none,0⟩,
⟨(some 10),(.q (.mv (.t 37))),none,0⟩])
(.seq (.reg [⟨(some 38),(.q (.mv (.t 0))),none,0⟩,
⟨(some 39),(.q (.mv (.t 11))),none,0⟩,
⟨(some 40),(.x (.call (.c (.fn 243 [] [])) [(.t 38),(.t 39),(.t 9)])),none,0⟩,
⟨(some 11),(.q (.mv (.t 40))),none,0⟩])
(.reg [⟨(some 41),(.q (.mv (.t 0))),none,0⟩,
⟨(some 42),(.q (.mv (.t 12))),none,0⟩,
⟨(some 43),(.x (.call (.c (.fn 243 [] [])) [(.t 41),(.t 42),(.t 9)])),none,0⟩,
⟨(some 12),(.q (.mv (.t 43))),none,0⟩]))) .skip))
(.reg [⟨(some 44),(.q (.mv (.t 0))),none,0⟩,
⟨(some 45),(.q (.mv (.t 10))),none,0⟩,
⟨(some 46),(.q (.mv (.t 11))),none,0⟩,
⟨(some 47),(.q (.mv (.t 12))),none,0⟩,
⟨(some 48),(.x (.call (.c (.fn 244 [] [])) [(.t 44),(.t 45),(.t 46),(.t 47),(.t 9)])),none,0⟩,
⟨(some 11),(.q (.mv (.t 48))),none,0⟩])) .skip))
(.seq (.reg [⟨(some 49),(.q (.ld false 1 (.t 9))),none,0⟩])
(.block 0 (.seq (.reg [⟨(some 52),(.q (.bin .eql (.p .int) (.t 49) (.c (.int .i64 (.ofNat 0))))),none,0⟩,
⟨(some 51),(.q (.mv (.t 52))),none,0⟩])
(.cond (.t 51) (.seq (.reg [⟨(some 53),(.q (.mv (.t 11))),none,0⟩,
⟨(some 6),(.q (.mv (.t 53))),none,0⟩,
⟨(some 7),(.q (.mv (.c (.int .i64 (.ofNat 1))))),none,0⟩])
.ret) (.seq (.reg [⟨(some 55),(.q (.bin .eql (.p .int) (.t 49) (.c (.int .i64 (.ofNat 12))))),none,0⟩,
⟨(some 54),(.q (.mv (.t 55))),none,0⟩])
(.cond (.t 54) (.seq (.reg [⟨(some 56),(.q (.mv (.t 11))),none,0⟩,
⟨(some 6),(.q (.mv (.t 56))),none,0⟩,
⟨(some 7),(.q (.mv (.c (.int .i64 (.ofNat 2))))),none,0⟩])
.ret) (.seq (.reg [⟨(some 50),(.q (.mv (.t 11))),none,0⟩,
⟨(some 6),(.q (.mv (.t 50))),none,0⟩,
⟨(some 7),(.q (.mv (.c (.int .i64 (.ofNat 0))))),none,0⟩])
.ret))))))))))))))⟩
theorem row200 : Row Tryz.prog (200, a200) := ⟨Tryz.f200, Tryz.func200, by kernel_rfl⟩
noncomputable def a201 : AFn :=
⟨32,[],(.seq (.reg [⟨(some 8),(.q (.mv (.t 1))),none,0⟩,
⟨(some 6),(.q (.mv (.t 8))),none,0⟩])
(.seq (.reg [⟨(some 9),(.q (.mv (.t 2))),none,0⟩,
⟨(some 10),(.q (.bin .sub (.p .int) (.t 9) (.c (.int .i64 (.ofNat 1))))),none,0⟩,
⟨(some 7),(.q (.mv (.t 10))),none,0⟩])
(.block 0 (.loop (.seq (.seq (.reg [⟨(some 11),(.q (.mv (.t 6))),none,0⟩,
⟨(some 12),(.q (.mv (.t 7))),none,0⟩,
⟨(some 13),(.q (.bin .lss (.p .int) (.t 11) (.t 12))),none,0⟩])
(.cond (.t 13) .skip (.exit 0)))
(.block 1 (.seq (.drw [⟨(some 14),(.q (.mv (.t 0))),none,0⟩,
⟨(some 15),(.q (.mv (.t 6))),none,0⟩,
⟨(some 16),(.q (.mv (.t 0))),none,0⟩,
⟨(some 17),(.q (.mv (.t 7))),none,0⟩,
⟨(some 18),(.q (.mv (.t 0))),none,0⟩,
⟨(some 19),(.q (.mv (.t 7))),none,0⟩,
⟨(some 20),(.q (.iaddr (.slice 1) (.t 18) (.t 19))),none,48⟩,
⟨(some 21),(.q (.ld false 1 (.t 20))),none,112⟩,
⟨(some 22),(.q (.mv (.t 0))),none,0⟩,
⟨(some 23),(.q (.mv (.t 6))),none,0⟩,
⟨(some 24),(.q (.iaddr (.slice 1) (.t 22) (.t 23))),none,768⟩,
⟨(some 25),(.q (.ld false 1 (.t 24))),none,1792⟩,
⟨(some 26),(.q (.iaddr (.slice 1) (.t 14) (.t 15))),none,4083⟩,
⟨none,(.x (.st 1 (.t 26) (.t 21))),none,8179⟩,
⟨(some 27),(.q (.iaddr (.slice 1) (.t 16) (.t 17))),none,16383⟩,
⟨none,(.x (.st 1 (.t 27) (.t 25))),none,32767⟩])
(.seq (.reg [⟨(some 28),(.q (.mv (.t 6))),none,0⟩,
⟨(some 29),(.q (.bin .add (.p .int) (.t 28) (.c (.int .i64 (.ofNat 1))))),none,0⟩,
⟨(some 6),(.q (.mv (.t 29))),none,0⟩])
(.reg [⟨(some 30),(.q (.mv (.t 7))),none,0⟩,
⟨(some 31),(.q (.bin .sub (.p .int) (.t 30) (.c (.int .i64 (.ofNat 1))))),none,0⟩,
⟨(some 7),(.q (.mv (.t 31))),none,0⟩])))))))))⟩
theorem row201 : Row Tryz.prog (201, a201) := ⟨Tryz.f201, Tryz.func201, by kernel_rfl⟩
noncomputable def a202 : AFn :=
⟨133,[(.t 6)],(.seq (.reg [⟨(some 6),(.q (.mv (.c (.bool false)))),none,0⟩])
(.seq (.reg [⟨(some 11),(.q (.mv (.t 1))),none,0⟩,
⟨(some 12),(.q (.bin .add (.p .int) (.t 11) (.c (.int .i64 (.ofNat 1))))),none,0⟩,
⟨(some 7),(.q (.mv (.t 12))),none,0⟩])
(.seq (.seq (.reg [⟨(some 8),(.q (.mv (.c (.int .i64 (.ofNat 0))))),none,0⟩])
(.block 0 (.loop (.seq (.seq (.reg [⟨(some 13),(.q (.mv (.t 8))),none,0⟩,
⟨(some 14),(.q (.bin .lss (.p .int) (.t 13) (.c (.int .i64 (.ofNat 5))))),none,0⟩])
(.cond (.t 14) .skip (.exit 0)))
(.seq (.block 1 (.seq (.block 2 (.loop (.seq (.seq (.drw [⟨(some 17),(.q (.mv (.t 7))),none,0⟩,
⟨(some 18),(.q (.mv (.t 2))),none,0⟩,
⟨(some 19),(.q (.bin .lss (.p .int) (.t 17) (.t 18))),none,3⟩,
⟨(some 20),(.q (.mv (.t 19))),none,7⟩,
⟨(some 21),(.q (.mv (.t 0))),(some (20,true)),15⟩,
⟨(some 22),(.q (.mv (.t 7))),(some (20,true)),15⟩,
⟨(some 23),(.q (.iaddr (.slice 1) (.t 21) (.t 22))),(some (20,true)),63⟩,
⟨(some 24),(.q (.ld false 1 (.t 23))),(some (20,true)),127⟩,
⟨(some 25),(.q (.mv (.t 0))),(some (20,true)),15⟩,
⟨(some 26),(.q (.mv (.t 7))),(some (20,true)),15⟩,
⟨(some 27),(.q (.bin .sub (.p .int) (.t 26) (.c (.int .i64 (.ofNat 1))))),(some (20,true)),527⟩,
⟨(some 28),(.q (.iaddr (.slice 1) (.t 25) (.t 27))),(some (20,true)),1807⟩,
⟨(some 29),(.q (.ld false 1 (.t 28))),(some (20,true)),3855⟩,
⟨(some 30),(.x (.call (.c (.fn 203 [] [])) [(.t 24),(.t 29)])),(some (20,true)),8191⟩,
⟨(some 31),(.q (.un .not (.t 30))),(some (20,true)),16383⟩,
⟨(some 32),(.q (.pick (.t 20) (.t 31) (.c (.bool false)))),none,32767⟩])
(.cond (.t 32) .skip (.exit 2)))
(.block 3 (.reg [⟨(some 33),(.q (.mv (.t 7))),none,0⟩,
⟨(some 34),(.q (.bin .add (.p .int) (.t 33) (.c (.int .i64 (.ofNat 1))))),none,0⟩,
⟨(some 7),(.q (.mv (.t 34))),none,0⟩])))))
(.seq (.seq (.reg [⟨(some 35),(.q (.mv (.t 7))),none,0⟩,
⟨(some 36),(.q (.mv (.t 2))),none,0⟩,
⟨(some 37),(.q (.bin .eql (.p .int) (.t 35) (.t 36))),none,0⟩])
(.cond (.t 37) (.seq (.reg [⟨(some 6),(.q (.mv (.c (.bool true)))),none,0⟩])
.ret) .skip))
(.seq (.seq (.reg [⟨(some 38),(.q (.mv (.t 2))),none,0⟩,
⟨(some 39),(.q (.mv (.t 1))),none,0⟩,
⟨(some 40),(.q (.bin .sub (.p .int) (.t 38) (.t 39))),none,0⟩,
⟨(some 41),(.q (.bin .lss (.p .int) (.t 40) (.c (.int .i64 (.ofNat 50))))),none,0⟩])
(.cond (.t 41) (.seq (.reg [⟨(some 6),(.q (.mv (.c (.bool false)))),none,0⟩])
.ret) .skip))
(.seq (.drw [⟨(some 42),(.q (.mv (.t 0))),none,0⟩,
⟨(some 43),(.q (.mv (.t 7))),none,0⟩,
⟨(some 44),(.q (.mv (.t 0))),none,0⟩,
⟨(some 45),(.q (.mv (.t 7))),none,0⟩,
⟨(some 46),(.q (.bin .sub (.p .int) (.t 45) (.c (.int .i64 (.ofNat 1))))),none,8⟩,
⟨(some 47),(.q (.mv (.t 0))),none,0⟩,
⟨(some 48),(.q (.mv (.t 7))),none,0⟩,
⟨(some 49),(.q (.bin .sub (.p .int) (.t 48) (.c (.int .i64 (.ofNat 1))))),none,64⟩,
⟨(some 50),(.q (.iaddr (.slice 1) (.t 47) (.t 49))),none,224⟩,
⟨(some 51),(.q (.ld false 1 (.t 50))),none,480⟩,
⟨(some 52),(.q (.mv (.t 0))),none,0⟩,
⟨(some 53),(.q (.mv (.t 7))),none,0⟩,
⟨(some 54),(.q (.iaddr (.slice 1) (.t 52) (.t 53))),none,3072⟩,
⟨(some 55),(.q (.ld false 1 (.t 54))),none,7168⟩,
⟨(some 56),(.q (.iaddr (.slice 1) (.t 42) (.t 43))),none,16355⟩,
⟨none,(.x (.st 1 (.t 56) (.t 51))),none,32739⟩,
⟨(some 57),(.q (.iaddr (.slice 1) (.t 44) (.t 46))),none,65535⟩,
⟨none,(.x (.st 1 (.t 57) (.t 55))),none,131071⟩])
(.seq (.seq (.reg [⟨(some 58),(.q (.mv (.t 7))),none,0⟩,
⟨(some 59),(.q (.mv (.t 1))),none,0⟩,
⟨(some 60),(.q (.bin .sub (.p .int) (.t 58) (.t 59))),none,0⟩,
⟨(some 61),(.q (.bin .geq (.p .int) (.t 60) (.c (.int .i64 (.ofNat 2))))),none,0⟩])
(.cond (.t 61) (.seq (.reg [⟨(some 62),(.q (.mv (.t 7))),none,0⟩,
⟨(some 63),(.q (.bin .sub (.p .int) (.t 62) (.c (.int .i64 (.ofNat 1))))),none,0⟩,
⟨(some 9),(.q (.mv (.t 63))),none,0⟩])
(.block 4 (.loop (.seq (.seq (.reg [⟨(some 64),(.q (.mv (.t 9))),none,0⟩,
⟨(some 65),(.q (.bin .geq (.p .int) (.t 64) (.c (.int .i64 (.ofNat 1))))),none,0⟩])
(.cond (.t 65) .skip (.exit 4)))
(.seq (.block 5 (.seq (.seq (.drw [⟨(some 68),(.q (.mv (.t 0))),none,0⟩,
⟨(some 69),(.q (.mv (.t 9))),none,0⟩,
⟨(some 70),(.q (.iaddr (.slice 1) (.t 68) (.t 69))),none,3⟩,
⟨(some 71),(.q (.ld false 1 (.t 70))),none,7⟩,
⟨(some 72),(.q (.mv (.t 0))),none,0⟩,
⟨(some 73),(.q (.mv (.t 9))),none,0⟩,
⟨(some 74),(.q (.bin .sub (.p .int) (.t 73) (.c (.int .i64 (.ofNat 1))))),none,32⟩,
⟨(some 75),(.q (.iaddr (.slice 1) (.t 72) (.t 74))),none,112⟩,
⟨(some 76),(.q (.ld false 1 (.t 75))),none,240⟩,
⟨(some 77),(.x (.call (.c (.fn 203 [] [])) [(.t 71),(.t 76)])),none,511⟩,
⟨(some 78),(.q (.un .not (.t 77))),none,1023⟩])
(.cond (.t 78) (.exit 4) .skip))
(.drw [⟨(some 79),(.q (.mv (.t 0))),none,0⟩,
⟨(some 80),(.q (.mv (.t 9))),none,0⟩,
⟨(some 81),(.q (.mv (.t 0))),none,0⟩,
⟨(some 82),(.q (.mv (.t 9))),none,0⟩,
⟨(some 83),(.q (.bin .sub (.p .int) (.t 82) (.c (.int .i64 (.ofNat 1))))),none,8⟩,
⟨(some 84),(.q (.mv (.t 0))),none,0⟩,
⟨(some 85),(.q (.mv (.t 9))),none,0⟩,
⟨(some 86),(.q (.bin .sub (.p .int) (.t 85) (.c (.int .i64 (.ofNat 1))))),none,64⟩,
⟨(some 87),(.q (.iaddr (.slice 1) (.t 84) (.t 86))),none,224⟩,
⟨(some 88),(.q (.ld false 1 (.t 87))),none,480⟩,
⟨(some 89),(.q (.mv (.t 0))),none,0⟩,
⟨(some 90),(.q (.mv (.t 9))),none,0⟩,
⟨(some 91),(.q (.iaddr (.slice 1) (.t 89) (.t 90))),none,3072⟩,
⟨(some 92),(.q (.ld false 1 (.t 91))),none,7168⟩,
⟨(some 93),(.q (.iaddr (.slice 1) (.t 79) (.t 80))),none,16355⟩,
⟨none,(.x (.st 1 (.t 93) (.t 88))),none,32739⟩,
⟨(some 94),(.q (.iaddr (.slice 1) (.t 81) (.t 83))),none,65535⟩,
⟨none,(.x (.st 1 (.t 94) (.t 92))),none,131071⟩])))
(.reg [⟨(some 66),(.q (.mv (.t 9))),none,0⟩,
⟨(some 67),(.q (.bin .sub (.p .int) (.t 66) (.c (.int .i64 (.ofNat 1))))),none,0⟩,
⟨(some 9),(.q (.mv (.t 67))),none,0⟩])))))) .skip))
(.seq (.reg [⟨(some 95),(.q (.mv (.t 2))),none,0⟩,
⟨(some 96),(.q (.mv (.t 7))),none,0⟩,
⟨(some 97),(.q (.bin .sub (.p .int) (.t 95) (.t 96))),none,0⟩,
⟨(some 98),(.q (.bin .geq (.p .int) (.t 97) (.c (.int .i64 (.ofNat 2))))),none,0⟩])
(.cond (.t 98) (.seq (.reg [⟨(some 99),(.q (.mv (.t 7))),none,0⟩,
⟨(some 100),(.q (.bin .add (.p .int) (.t 99) (.c (.int .i64 (.ofNat 1))))),none,0⟩,
⟨(some 10),(.q (.mv (.t 100))),none,0⟩])
(.block 6 (.loop (.seq (.seq (.reg [⟨(some 101),(.q (.mv (.t 10))),none,0⟩,
⟨(some 102),(.q (.mv (.t 2))),none,0⟩,
⟨(some 103),(.q (.bin .lss (.p .int) (.t 101) (.t 102))),none,0⟩])
(.cond (.t 103) .skip (.exit 6)))
(.seq (.block 7 (.seq (.seq (.drw [⟨(some 106),(.q (.mv (.t 0))),none,0⟩,
⟨(some 107),(.q (.mv (.t 10))),none,0⟩,
⟨(some 108),(.q (.iaddr (.slice 1) (.t 106) (.t 107))),none,3⟩,
⟨(some 109),(.q (.ld false 1 (.t 108))),none,7⟩,
⟨(some 110),(.q (.mv (.t 0))),none,0⟩,
⟨(some 111),(.q (.mv (.t 10))),none,0⟩,
⟨(some 112),(.q (.bin .sub (.p .int) (.t 111) (.c (.int .i64 (.ofNat 1))))),none,32⟩,
⟨(some 113),(.q (.iaddr (.slice 1) (.t 110) (.t 112))),none,112⟩,
⟨(some 114),(.q (.ld false 1 (.t 113))),none,240⟩,
⟨(some 115),(.x (.call (.c (.fn 203 [] [])) [(.t 109),(.t 114)])),none,511⟩,
⟨(some 116),(.q (.un .not (.t 115))),none,1023⟩])
(.cond (.t 116) (.exit 6) .skip))
(.drw [⟨(some 117),(.q (.mv (.t 0))),none,0⟩,
⟨(some 118),(.q (.mv (.t 10))),none,0⟩,
⟨(some 119),(.q (.mv (.t 0))),none,0⟩,
⟨(some 120),(.q (.mv (.t 10))),none,0⟩,
⟨(some 121),(.q (.bin .sub (.p .int) (.t 120) (.c (.int .i64 (.ofNat 1))))),none,8⟩,
⟨(some 122),(.q (.mv (.t 0))),none,0⟩,
⟨(some 123),(.q (.mv (.t 10))),none,0⟩,
⟨(some 124),(.q (.bin .sub (.p .int) (.t 123) (.c (.int .i64 (.ofNat 1))))),none,64⟩,
⟨(some 125),(.q (.iaddr (.slice 1) (.t 122) (.t 124))),none,224⟩,
⟨(some 126),(.q (.ld false 1 (.t 125))),none,480⟩,
⟨(some 127),(.q (.mv (.t 0))),none,0⟩,
⟨(some 128),(.q (.mv (.t 10))),none,0⟩,
⟨(some 129),(.q (.iaddr (.slice 1) (.t 127) (.t 128))),none,3072⟩,
⟨(some 130),(.q (.ld false 1 (.t 129))),none,7168⟩,
⟨(some 131),(.q (.iaddr (.slice 1) (.t 117) (.t 118))),none,16355⟩,
⟨none,(.x (.st 1 (.t 131) (.t 126))),none,32739⟩,
⟨(some 132),(.q (.iaddr (.slice 1) (.t 119) (.t 121))),none,65535⟩,
⟨none,(.x (.st 1 (.t 132) (.t 130))),none,131071⟩])))
(.reg [⟨(some 104),(.q (.mv (.t 10))),none,0⟩,
⟨(some 105),(.q (.bin .add (.p .int) (.t 104) (.c (.int .i64 (.ofNat 1))))),none,0⟩,
⟨(some 10),(.q (.mv (.t 105))),none,0⟩])))))) .skip))))))))
(.reg [⟨(some 15),(.q (.mv (.t 8))),none,0⟩,
⟨(some 16),(.q (.bin .add (.p .int) (.t 15) (.c (.int .i64 (.ofNat 1))))),none,0⟩,
⟨(some 8),(.q (.mv (.t 16))),none,0⟩]))))))
(.seq (.reg [⟨(some 6),(.q (.mv (.c (.bool false)))),none,0⟩])
.ret))))⟩
theorem row202 : Row Tryz.prog (202, a202) := ⟨Tryz.f202, Tryz.func202, by kernel_rfl⟩
noncomputable def a203 : AFn :=
⟨17,[(.t 4)],(.seq (.reg [⟨(some 4),(.q (.mv (.c (.bool false)))),none,0⟩])
(.seq (.reg [⟨(some 5),(.q (.mv (.t 0))),none,0⟩,
⟨(some 6),(.x (.call (.c (.fn 245 [] [])) [(.t 5)])),none,0⟩,
⟨(some 7),(.q (.mv (.t 6))),none,0⟩,
⟨(some 8),(.q (.mv (.t 1))),(some (7,true)),0⟩,
⟨(some 9),(.x (.call (.c (.fn 245 [] [])) [(.t 8)])),(some (7,true)),0⟩,
⟨(some 10),(.q (.un .not (.t 9))),(some (7,true)),0⟩,
⟨(some 11),(.q (.pick (.t 7) (.t 10) (.c (.bool false)))),none,0⟩,
⟨(some 12),(.q (.mv (.t 11))),none,0⟩,
⟨(some 13),(.q (.mv (.t 0))),(some (12,false)),0⟩,
⟨(some 14),(.q (.mv (.t 1))),(some (12,false)),0⟩,
⟨(some 15),(.q (.bin .lss (.p .int) (.t 13) (.t 14))),(some (12,false)),0⟩,
⟨(some 16),(.q (.pick (.t 12) (.c (.bool true)) (.t 15))),none,0⟩,
⟨(some 4),(.q (.mv (.t 16))),none,0⟩])
.ret))⟩
theorem row203 : Row Tryz.prog (203, a203) := ⟨Tryz.f203, Tryz.func203, by kernel_rfl⟩
noncomputable def a204 : AFn :=
⟨84,[(.t 8)],(.seq (.reg [⟨(some 8),(.q (.mv (.c (.int .i64 (.ofNat 0))))),none,0⟩])
(.seq (.drw [⟨(some 11),(.q (.mv (.t 0))),none,0⟩,
⟨(some 12),(.q (.mv (.t 1))),none,0⟩,
⟨(some 13),(.q (.mv (.t 0))),none,0⟩,
⟨(some 14),(.q (.mv (.t 3))),none,0⟩,
⟨(some 15),(.q (.mv (.t 0))),none,0⟩,
⟨(some 16),(.q (.mv (.t 3))),none,0⟩,
⟨(some 17),(.q (.iaddr (.slice 1) (.t 15) (.t 16))),none,48⟩,
⟨(some 18),(.q (.ld false 1 (.t 17))),none,112⟩,
⟨(some 19),(.q (.mv (.t 0))),none,0⟩,
⟨(some 20),(.q (.mv (.t 1))),none,0⟩,
⟨(some 21),(.q (.iaddr (.slice 1) (.t 19) (.t 20))),none,768⟩,
⟨(some 22),(.q (.ld false 1 (.t 21))),none,1792⟩,
⟨(some 23),(.q (.iaddr (.slice 1) (.t 11) (.t 12))),none,4083⟩,
⟨none,(.x (.st 1 (.t 23) (.t 18))),none,8179⟩,
⟨(some 24),(.q (.iaddr (.slice 1) (.t 13) (.t 14))),none,16383⟩,
⟨none,(.x (.st 1 (.t 24) (.t 22))),none,32767⟩])
(.seq (.reg [⟨(some 25),(.q (.mv (.t 1))),none,0⟩,
⟨(some 26),(.q (.bin .add (.p .int) (.t 25) (.c (.int .i64 (.ofNat 1))))),none,0⟩,
⟨(some 27),(.q (.mv (.t 2))),none,0⟩,
⟨(some 28),(.q (.bin .sub (.p .int) (.t 27) (.c (.int .i64 (.ofNat 1))))),none,0⟩,
⟨(some 9),(.q (.mv (.t 26))),none,0⟩,
⟨(some 10),(.q (.mv (.t 28))),none,0⟩])
(.seq (.block 0 (.loop (.block 1 (.seq (.block 2 (.loop (.seq (.seq (.drw [⟨(some 29),(.q (.mv (.t 9))),none,0⟩,
⟨(some 30),(.q (.mv (.t 10))),none,0⟩,
⟨(some 31),(.q (.bin .leq (.p .int) (.t 29) (.t 30))),none,3⟩,
⟨(some 32),(.q (.mv (.t 31))),none,7⟩,
⟨(some 33),(.q (.mv (.t 0))),(some (32,true)),15⟩,
⟨(some 34),(.q (.mv (.t 1))),(some (32,true)),15⟩,
⟨(some 35),(.q (.iaddr (.slice 1) (.t 33) (.t 34))),(some (32,true)),63⟩,
⟨(some 36),(.q (.ld false 1 (.t 35))),(some (32,true)),127⟩,
⟨(some 37),(.q (.mv (.t 0))),(some (32,true)),15⟩,
⟨(some 38),(.q (.mv (.t 9))),(some (32,true)),15⟩,
⟨(some 39),(.q (.iaddr (.slice 1) (.t 37) (.t 38))),(some (32,true)),783⟩,
⟨(some 40),(.q (.ld false 1 (.t 39))),(some (32,true)),1807⟩,
⟨(some 41),(.x (.call (.c (.fn 203 [] [])) [(.t 36),(.t 40)])),(some (32,true)),4095⟩,
⟨(some 42),(.q (.un .not (.t 41))),(some (32,true)),8191⟩,
⟨(some 43),(.q (.pick (.t 32) (.t 42) (.c (.bool false)))),none,16383⟩])
(.cond (.t 43) .skip (.exit 2)))
(.block 3 (.reg [⟨(some 44),(.q (.mv (.t 9))),none,0⟩,
⟨(some 45),(.q (.bin .add (.p .int) (.t 44) (.c (.int .i64 (.ofNat 1))))),none,0⟩,
⟨(some 9),(.q (.mv (.t 45))),none,0⟩])))))
(.seq (.block 4 (.loop (.seq (.seq (.drw [⟨(some 46),(.q (.mv (.t 9))),none,0⟩,
⟨(some 47),(.q (.mv (.t 10))),none,0⟩,
⟨(some 48),(.q (.bin .leq (.p .int) (.t 46) (.t 47))),none,3⟩,
⟨(some 49),(.q (.mv (.t 48))),none,7⟩,
⟨(some 50),(.q (.mv (.t 0))),(some (49,true)),15⟩,
⟨(some 51),(.q (.mv (.t 1))),(some (49,true)),15⟩,
⟨(some 52),(.q (.iaddr (.slice 1) (.t 50) (.t 51))),(some (49,true)),63⟩,
⟨(some 53),(.q (.ld false 1 (.t 52))),(some (49,true)),127⟩,
⟨(some 54),(.q (.mv (.t 0))),(some (49,true)),15⟩,
⟨(some 55),(.q (.mv (.t 10))),(some (49,true)),15⟩,
⟨(some 56),(.q (.iaddr (.slice 1) (.t 54) (.t 55))),(some (49,true)),783⟩,
⟨(some 57),(.q (.ld false 1 (.t 56))),(some (49,true)),1807⟩,
⟨(some 58),(.x (.call (.c (.fn 203 [] [])) [(.t 53),(.t 57)])),(some (49,true)),4095⟩,
⟨(some 59),(.q (.pick (.t 49) (.t 58) (.c (.bool false)))),none,8191⟩])
(.cond (.t 59) .skip (.exit 4)))
(.block 5 (.reg [⟨(some 60),(.q (.mv (.t 10))),none,0⟩,
⟨(some 61),(.q (.bin .sub (.p .int) (.t 60) (.c (.int .i64 (.ofNat 1))))),none,0⟩,
⟨(some 10),(.q (.mv (.t 61))),none,0⟩])))))
(.seq (.seq (.reg [⟨(some 62),(.q (.mv (.t 9))),none,0⟩,
⟨(some 63),(.q (.mv (.t 10))),none,0⟩,
⟨(some 64),(.q (.bin .gtr (.p .int) (.t 62) (.t 63))),none,0⟩])
(.cond (.t 64) (.exit 0) .skip))
(.seq (.drw [⟨(some 65),(.q (.mv (.t 0))),none,0⟩,
⟨(some 66),(.q (.mv (.t 9))),none,0⟩,
⟨(some 67),(.q (.mv (.t 0))),none,0⟩,
⟨(some 68),(.q (.mv (.t 10))),none,0⟩,
⟨(some 69),(.q (.mv (.t 0))),none,0⟩,
⟨(some 70),(.q (.mv (.t 10))),none,0⟩,
⟨(some 71),(.q (.iaddr (.slice 1) (.t 69) (.t 70))),none,48⟩,
⟨(some 72),(.q (.ld false 1 (.t 71))),none,112⟩,
⟨(some 73),(.q (.mv (.t 0))),none,0⟩,
⟨(some 74),(.q (.mv (.t 9))),none,0⟩,
⟨(some 75),(.q (.iaddr (.slice 1) (.t 73) (.t 74))),none,768⟩,
⟨(some 76),(.q (.ld false 1 (.t 75))),none,1792⟩,
⟨(some 77),(.q (.iaddr (.slice 1) (.t 65) (.t 66))),none,4083⟩,
⟨none,(.x (.st 1 (.t 77) (.t 72))),none,8179⟩,
⟨(some 78),(.q (.iaddr (.slice 1) (.t 67) (.t 68))),none,16383⟩,
⟨none,(.x (.st 1 (.t 78) (.t 76))),none,32767⟩])
(.seq (.reg [⟨(some 79),(.q (.mv (.t 9))),none,0⟩,
⟨(some 80),(.q (.bin .add (.p .int) (.t 79) (.c (.int .i64 (.ofNat 1))))),none,0⟩,
⟨(some 9),(.q (.mv (.t 80))),none,0⟩])
(.reg [⟨(some 81),(.q (.mv (.t 10))),none,0⟩,
⟨(some 82),(.q (.bin .sub (.p .int) (.t 81) (.c (.int .i64 (.ofNat 1))))),none,0⟩,
⟨(some 10),(.q (.mv (.t 82))),none,0⟩])))))))))
(.seq (.reg [⟨(some 83),(.q (.mv (.t 9))),none,0⟩,
⟨(some 8),(.q (.mv (.t 83))),none,0⟩])
.ret)))))⟩
theorem row204 : Row Tryz.prog (204, a204) := ⟨Tryz.f204, Tryz.func204, by kernel_rfl⟩
noncomputable def a205 : AFn :=
⟨168,[(.t 8),(.t 9)],(.seq (.reg [⟨(some 8),(.q (.mv (.c (.int .i64 (.ofNat 0))))),none,0⟩,
⟨(some 9),(.q (.mv (.c (.bool false)))),none,0⟩])
(.seq (.drw [⟨(some 12),(.q (.mv (.t 0))),none,0⟩,
⟨(some 13),(.q (.mv (.t 1))),none,0⟩,
⟨(some 14),(.q (.mv (.t 0))),none,0⟩,
⟨(some 15),(.q (.mv (.t 3))),none,0⟩,
⟨(some 16),(.q (.mv (.t 0))),none,0⟩,
⟨(some 17),(.q (.mv (.t 3))),none,0⟩,
⟨(some 18),(.q (.iaddr (.slice 1) (.t 16) (.t 17))),none,48⟩,
⟨(some 19),(.q (.ld false 1 (.t 18))),none,112⟩,
⟨(some 20),(.q (.mv (.t 0))),none,0⟩,
⟨(some 21),(.q (.mv (.t 1))),none,0⟩,
⟨(some 22),(.q (.iaddr (.slice 1) (.t 20) (.t 21))),none,768⟩,
⟨(some 23),(.q (.ld false 1 (.t 22))),none,1792⟩,
⟨(some 24),(.q (.iaddr (.slice 1) (.t 12) (.t 13))),none,4083⟩,
⟨none,(.x (.st 1 (.t 24) (.t 19))),none,8179⟩,
⟨(some 25),(.q (.iaddr (.slice 1) (.t 14) (.t 15))),none,16383⟩,
⟨none,(.x (.st 1 (.t 25) (.t 23))),none,32767⟩])
(.seq (.reg [⟨(some 26),(.q (.mv (.t 1))),none,0⟩,
⟨(some 27),(.q (.bin .add (.p .int) (.t 26) (.c (.int .i64 (.ofNat 1))))),none,0⟩,
⟨(some 28),(.q (.mv (.t 2))),none,0⟩,
⟨(some 29),(.q (.bin .sub (.p .int) (.t 28) (.c (.int .i64 (.ofNat 1))))),none,0⟩,
⟨(some 10),(.q (.mv (.t 27))),none,0⟩,
⟨(some 11),(.q (.mv (.t 29))),none,0⟩])
(.seq (.block 0 (.loop (.seq (.seq (.drw [⟨(some 30),(.q (.mv (.t 10))),none,0⟩,
⟨(some 31),(.q (.mv (.t 11))),none,0⟩,
⟨(some 32),(.q (.bin .leq (.p .int) (.t 30) (.t 31))),none,3⟩,
⟨(some 33),(.q (.mv (.t 32))),none,7⟩,
⟨(some 34),(.q (.mv (.t 0))),(some (33,true)),15⟩,
⟨(some 35),(.q (.mv (.t 10))),(some (33,true)),15⟩,
⟨(some 36),(.q (.iaddr (.slice 1) (.t 34) (.t 35))),(some (33,true)),63⟩,
⟨(some 37),(.q (.ld false 1 (.t 36))),(some (33,true)),127⟩,
⟨(some 38),(.q (.mv (.t 0))),(some (33,true)),15⟩,
⟨(some 39),(.q (.mv (.t 1))),(some (33,true)),15⟩,
⟨(some 40),(.q (.iaddr (.slice 1) (.t 38) (.t 39))),(some (33,true)),783⟩,
⟨(some 41),(.q (.ld false 1 (.t 40))),(some (33,true)),1807⟩,
⟨(some 42),(.x (.call (.c (.fn 203 [] [])) [(.t 37),(.t 41)])),(some (33,true)),4095⟩,
⟨(some 43),(.q (.pick (.t 33) (.t 42) (.c (.bool false)))),none,8191⟩])
(.cond (.t 43) .skip (.exit 0)))
(.block 1 (.reg [⟨(some 44),(.q (.mv (.t 10))),none,0⟩,
⟨(some 45),(.q (.bin .add (.p .int) (.t 44) (.c (.int .i64 (.ofNat 1))))),none,0⟩,
⟨(some 10),(.q (.mv (.t 45))),none,0⟩])))))
(.seq (.block 2 (.loop (.seq (.seq (.drw [⟨(some 46),(.q (.mv (.t 10))),none,0⟩,
⟨(some 47),(.q (.mv (.t 11))),none,0⟩,
⟨(some 48),(.q (.bin .leq (.p .int) (.t 46) (.t 47))),none,3⟩,
⟨(some 49),(.q (.mv (.t 48))),none,7⟩,
⟨(some 50),(.q (.mv (.t 0))),(some (49,true)),15⟩,
⟨(some 51),(.q (.mv (.t 11))),(some (49,true)),15⟩,
⟨(some 52),(.q (.iaddr (.slice 1) (.t 50) (.t 51))),(some (49,true)),63⟩,
⟨(some 53),(.q (.ld false 1 (.t 52))),(some (49,true)),127⟩,
⟨(some 54),(.q (.mv (.t 0))),(some (49,true)),15⟩,
⟨(some 55),(.q (.mv (.t 1))),(some (49,true)),15⟩,
⟨(some 56),(.q (.iaddr (.slice 1) (.t 54) (.t 55))),(some (49,true)),783⟩,
⟨(some 57),(.q (.ld false 1 (.t 56))),(some (49,true)),1807⟩,
⟨(some 58),(.x (.call (.c (.fn 203 [] [])) [(.t 53),(.t 57)])),(some (49,true)),4095⟩,
⟨(some 59),(.q (.un .not (.t 58))),(some (49,true)),8191⟩,
⟨(some 60),(.q (.pick (.t 49) (.t 59) (.c (.bool false)))),none,16383⟩])
(.cond (.t 60) .skip (.exit 2)))
(.block 3 (.reg [⟨(some 61),(.q (.mv (.t 11))),none,0⟩,
⟨(some 62),(.q (.bin .sub (.p .int) (.t 61) (.c (.int .i64 (.ofNat 1))))),none,0⟩,
⟨(some 11),(.q (.mv (.t 62))),none,0⟩])))))
(.seq (.seq (.reg [⟨(some 63),(.q (.mv (.t 10))),none,0⟩,
⟨(some 64),(.q (.mv (.t 11))),none,0⟩,
⟨(some 65),(.q (.bin .gtr (.p .int) (.t 63) (.t 64))),none,0⟩])
(.cond (.t 65) (.seq (.drw [⟨(some 66),(.q (.mv (.t 0))),none,0⟩,
⟨(some 67),(.q (.mv (.t 11))),none,0⟩,
⟨(some 68),(.q (.mv (.t 0))),none,0⟩,
⟨(some 69),(.q (.mv (.t 1))),none,0⟩,
⟨(some 70),(.q (.mv (.t 0))),none,0⟩,
⟨(some 71),(.q (.mv (.t 1))),none,0⟩,
⟨(some 72),(.q (.iaddr (.slice 1) (.t 70) (.t 71))),none,48⟩,
⟨(some 73),(.q (.ld false 1 (.t 72))),none,112⟩,
⟨(some 74),(.q (.mv (.t 0))),none,0⟩,
⟨(some 75),(.q (.mv (.t 11))),none,0⟩,
⟨(some 76),(.q (.iaddr (.slice 1) (.t 74) (.t 75))),none,768⟩,
⟨(some 77),(.q (.ld false 1 (.t 76))),none,1792⟩,
⟨(some 78),(.q (.iaddr (.slice 1) (.t 66) (.t 67))),none,4083⟩,
⟨none,(.x (.st 1 (.t 78) (.t 73))),none,8179⟩,
⟨(some 79),(.q (.iaddr (.slice 1) (.t 68) (.t 69))),none,16383⟩,
⟨none,(.x (.st 1 (.t 79) (.t 77))),none,32767⟩])
(.seq (.reg [⟨(some 80),(.q (.mv (.t 11))),none,0⟩,
⟨(some 8),(.q (.mv (.t 80))),none,0⟩,
⟨(some 9),(.q (.mv (.c (.bool true)))),none,0⟩])
.ret)) .skip))
(.seq (.drw [⟨(some 81),(.q (.mv (.t 0))),none,0⟩,
⟨(some 82),(.q (.mv (.t 10))),none,0⟩,
⟨(some 83),(.q (.mv (.t 0))),none,0⟩,
⟨(some 84),(.q (.mv (.t 11))),none,0⟩,
⟨(some 85),(.q (.mv (.t 0))),none,0⟩,
⟨(some 86),(.q (.mv (.t 11))),none,0⟩,
⟨(some 87),(.q (.iaddr (.slice 1) (.t 85) (.t 86))),none,48⟩,
⟨(some 88),(.q (.ld false 1 (.t 87))),none,112⟩,
⟨(some 89),(.q (.mv (.t 0))),none,0⟩,
⟨(some 90),(.q (.mv (.t 10))),none,0⟩,
⟨(some 91),(.q (.iaddr (.slice 1) (.t 89) (.t 90))),none,768⟩,
⟨(some 92),(.q (.ld false 1 (.t 91))),none,1792⟩,
⟨(some 93),(.q (.iaddr (.slice 1) (.t 81) (.t 82))),none,4083⟩,
⟨none,(.x (.st 1 (.t 93) (.t 88))),none,8179⟩,
⟨(some 94),(.q (.iaddr (.slice 1) (.t 83) (.t 84))),none,16383⟩,
⟨none,(.x (.st 1 (.t 94) (.t 92))),none,32767⟩])
(.seq (.reg [⟨(some 95),(.q (.mv (.t 10))),none,0⟩,
⟨(some 96),(.q (.bin .add (.p .int) (.t 95) (.c (.int .i64 (.ofNat 1))))),none,0⟩,
⟨(some 10),(.q (.mv (.t 96))),none,0⟩])
(.seq (.reg [⟨(some 97),(.q (.mv (.t 11))),none,0⟩,
⟨(some 98),(.q (.bin .sub (.p .int) (.t 97) (.c (.int .i64 (.ofNat 1))))),none,0⟩,
⟨(some 11),(.q (.mv (.t 98))),none,0⟩])
(.seq (.block 4 (.loop (.block 5 (.seq (.block 6 (.loop (.seq (.seq (.drw [⟨(some 99),(.q (.mv (.t 10))),none,0⟩,
⟨(some 100),(.q (.mv (.t 11))),none,0⟩,
⟨(some 101),(.q (.bin .leq (.p .int) (.t 99) (.t 100))),none,3⟩,
⟨(some 102),(.q (.mv (.t 101))),none,7⟩,
⟨(some 103),(.q (.mv (.t 0))),(some (102,true)),15⟩,
⟨(some 104),(.q (.mv (.t 10))),(some (102,true)),15⟩,
⟨(some 105),(.q (.iaddr (.slice 1) (.t 103) (.t 104))),(some (102,true)),63⟩,
⟨(some 106),(.q (.ld false 1 (.t 105))),(some (102,true)),127⟩,
⟨(some 107),(.q (.mv (.t 0))),(some (102,true)),15⟩,
⟨(some 108),(.q (.mv (.t 1))),(some (102,true)),15⟩,
⟨(some 109),(.q (.iaddr (.slice 1) (.t 107) (.t 108))),(some (102,true)),783⟩,
⟨(some 110),(.q (.ld false 1 (.t 109))),(some (102,true)),1807⟩,
⟨(some 111),(.x (.call (.c (.fn 203 [] [])) [(.t 106),(.t 110)])),(some (102,true)),4095⟩,
⟨(some 112),(.q (.pick (.t 102) (.t 111) (.c (.bool false)))),none,8191⟩])
(.cond (.t 112) .skip (.exit 6)))
(.block 7 (.reg [⟨(some 113),(.q (.mv (.t 10))),none,0⟩,
⟨(some 114),(.q (.bin .add (.p .int) (.t 113) (.c (.int .i64 (.ofNat 1))))),none,0⟩,
⟨(some 10),(.q (.mv (.t 114))),none,0⟩])))))
(.seq (.block 8 (.loop (.seq (.seq (.drw [⟨(some 115),(.q (.mv (.t 10))),none,0⟩,
⟨(some 116),(.q (.mv (.t 11))),none,0⟩,
⟨(some 117),(.q (.bin .leq (.p .int) (.t 115) (.t 116))),none,3⟩,
⟨(some 118),(.q (.mv (.t 117))),none,7⟩,
⟨(some 119),(.q (.mv (.t 0))),(some (118,true)),15⟩,
⟨(some 120),(.q (.mv (.t 11))),(some (118,true)),15⟩,
⟨(some 121),(.q (.iaddr (.slice 1) (.t 119) (.t 120))),(some (118,true)),63⟩,
⟨(some 122),(.q (.ld false 1 (.t 121))),(some (118,true)),127⟩,
⟨(some 123),(.q (.mv (.t 0))),(some (118,true)),15⟩,
⟨(some 124),(.q (.mv (.t 1))),(some (118,true)),15⟩,
⟨(some 125),(.q (.iaddr (.slice 1) (.t 123) (.t 124))),(some (118,true)),783⟩,
⟨(some 126),(.q (.ld false 1 (.t 125))),(some (118,true)),1807⟩,
⟨(some 127),(.x (.call (.c (.fn 203 [] [])) [(.t 122),(.t 126)])),(some (118,true)),4095⟩,
⟨(some 128),(.q (.un .not (.t 127))),(some (118,true)),8191⟩,
⟨(some 129),(.q (.pick (.t 118) (.t 128) (.c (.bool false)))),none,16383⟩])
(.cond (.t 129) .skip (.exit 8)))
(.block 9 (.reg [⟨(some 130),(.q (.mv (.t 11))),none,0⟩,
⟨(some 131),(.q (.bin .sub (.p .int) (.t 130) (.c (.int .i64 (.ofNat 1))))),none,0⟩,
⟨(some 11),(.q (.mv (.t 131))),none,0⟩])))))
(.seq (.seq (.reg [⟨(some 132),(.q (.mv (.t 10))),none,0⟩,
⟨(some 133),(.q (.mv (.t 11))),none,0⟩,
⟨(some 134),(.q (.bin .gtr (.p .int) (.t 132) (.t 133))),none,0⟩])
(.cond (.t 134) (.exit 4) .skip))
(.seq (.drw [⟨(some 135),(.q (.mv (.t 0))),none,0⟩,
⟨(some 136),(.q (.mv (.t 10))),none,0⟩,
⟨(some 137),(.q (.mv (.t 0))),none,0⟩,
⟨(some 138),(.q (.mv (.t 11))),none,0⟩,
⟨(some 139),(.q (.mv (.t 0))),none,0⟩,
⟨(some 140),(.q (.mv (.t 11))),none,0⟩,
⟨(some 141),(.q (.iaddr (.slice 1) (.t 139) (.t 140))),none,48⟩,
⟨(some 142),(.q (.ld false 1 (.t 141))),none,112⟩,
⟨(some 143),(.q (.mv (.t 0))),none,0⟩,
⟨(some 144),(.q (.mv (.t 10))),none,0⟩,
⟨(some 145),(.q (.iaddr (.slice 1) (.t 143) (.t 144))),none,768⟩,
⟨(some 146),(.q (.ld false 1 (.t 145))),none,1792⟩,
⟨(some 147),(.q (.iaddr (.slice 1) (.t 135) (.t 136))),none,4083⟩,
⟨none,(.x (.st 1 (.t 147) (.t 142))),none,8179⟩,
⟨(some 148),(.q (.iaddr (.slice 1) (.t 137) (.t 138))),none,16383⟩,
⟨none,(.x (.st 1 (.t 148) (.t 146))),none,32767⟩])
(.seq (.reg [⟨(some 149),(.q (.mv (.t 10))),none,0⟩,
⟨(some 150),(.q (.bin .add (.p .int) (.t 149) (.c (.int .i64 (.ofNat 1))))),none,0⟩,
⟨(some 10),(.q (.mv (.t 150))),none,0⟩])
(.reg [⟨(some 151),(.q (.mv (.t 11))),none,0⟩,
⟨(some 152),(.q (.bin .sub (.p .int) (.t 151) (.c (.int .i64 (.ofNat 1))))),none,0⟩,
⟨(some 11),(.q (.mv (.t 152))),none,0⟩])))))))))
(.seq (.drw [⟨(some 153),(.q (.mv (.t 0))),none,0⟩,
⟨(some 154),(.q (.mv (.t 11))),none,0⟩,
⟨(some 155),(.q (.mv (.t 0))),none,0⟩,
⟨(some 156),(.q (.mv (.t 1))),none,0⟩,
⟨(some 157),(.q (.mv (.t 0))),none,0⟩,
⟨(some 158),(.q (.mv (.t 1))),none,0⟩,
⟨(some 159),(.q (.iaddr (.slice 1) (.t 157) (.t 158))),none,48⟩,
⟨(some 160),(.q (.ld false 1 (.t 159))),none,112⟩,
⟨(some 161),(.q (.mv (.t 0))),none,0⟩,
⟨(some 162),(.q (.mv (.t 11))),none,0⟩,
⟨(some 163),(.q (.iaddr (.slice 1) (.t 161) (.t 162))),none,768⟩,
⟨(some 164),(.q (.ld false 1 (.t 163))),none,1792⟩,
⟨(some 165),(.q (.iaddr (.slice 1) (.t 153) (.t 154))),none,4083⟩,
⟨none,(.x (.st 1 (.t 165) (.t 160))),none,8179⟩,
⟨(some 166),(.q (.iaddr (.slice 1) (.t 155) (.t 156))),none,16383⟩,
⟨none,(.x (.st 1 (.t 166) (.t 164))),none,32767⟩])
(.seq (.reg [⟨(some 167),(.q (.mv (.t 11))),none,0⟩,
⟨(some 8),(.q (.mv (.t 167))),none,0⟩,
⟨(some 9),(.q (.mv (.c (.bool false)))),none,0⟩])
.ret))))))))))))⟩
theorem row205 : Row Tryz.prog (205, a205) := ⟨Tryz.f205, Tryz.func205, by kernel_rfl⟩
noncomputable def a206 : AFn :=
⟨19,[(.t 2)],(.seq (.reg [⟨(some 2),(.q (.mv (.c (.int .i64 (.ofNat 0))))),none,0⟩])
(.seq (.seq (.reg [⟨(some 3),(.q (.mv (.t 0))),none,0⟩,
⟨(some 4),(.q (.bin .geq (.p .int) (.t 3) (.c (.int .u32 (.ofNat 65536))))),none,0⟩])
(.cond (.t 4) (.seq (.reg [⟨(some 5),(.q (.mv (.t 0))),none,0⟩,
⟨(some 6),(.q (.bin .shr (.p .int) (.t 5) (.c (.int .u64 (.ofNat 16))))),none,0⟩,
⟨(some 0),(.q (.mv (.t 6))),none,0⟩])
(.reg [⟨(some 2),(.q (.mv (.c (.int .i64 (.ofNat 16))))),none,0⟩])) .skip))
(.seq (.seq (.reg [⟨(some 7),(.q (.mv (.t 0))),none,0⟩,
⟨(some 8),(.q (.bin .geq (.p .int) (.t 7) (.c (.int .u32 (.ofNat 256))))),none,0⟩])
(.cond (.t 8) (.seq (.reg [⟨(some 9),(.q (.mv (.t 0))),none,0⟩,
⟨(some 10),(.q (.bin .shr (.p .int) (.t 9) (.c (.int .u64 (.ofNat 8))))),none,0⟩,
⟨(some 0),(.q (.mv (.t 10))),none,0⟩])
(.reg [⟨(some 11),(.q (.mv (.t 2))),none,0⟩,
⟨(some 12),(.q (.bin .add (.p .int) (.t 11) (.c (.int .i64 (.ofNat 8))))),none,0⟩,
⟨(some 2),(.q (.mv (.t 12))),none,0⟩])) .skip))
(.seq (.reg [⟨(some 13),(.q (.mv (.t 2))),none,0⟩,
⟨(some 14),(.q (.mv (.t 0))),none,0⟩,
⟨(some 15),(.q (.conv (.int .u8) (.t 14))),none,0⟩,
⟨(some 16),(.q (.idxStr (.c (.str [0,1,2,2,3,3,3,3,4,4,4,4,4,4,4,4,5,5,5,5,5,5,5,5,5,5,5,5,5,5,5,5,6,6,6,6,6,6,6,6,6,6,6,6,6,6,6,6,6,6,6,6,6,6,6,6,6,6,6,6,6,6,6,6,7,7,7,7,7,7,7,7,7,7,7,7,7,7,7,7,7,7,7,7,7,7,7,7,7,7,7,7,7,7,7,7,7,7,7,7,7,7,7,7,7,7,7,7,7,7,7,7,7,7,7,7,7,7,7,7,7,7,7,7,7,7,7,7,8,8,8,8,8,8,8,8,8,8,8,8,8,8,8,8,8,8,8,8,8,8,8,8,8,8,8,8,8,8,8,8,8,8,8,8,8,8,8,8,8,8,8,8,8,8,8,8,8,8,8,8,8,8,8,8,8,8,8,8,8,8,8,8,8,8,8,8,8,8,8,8,8,8,8,8,8,8,8,8,8,8,8,8,8,8,8,8,8,8,8,8,8,8,8,8,8,8,8,8,8,8,8,8,8,8,8,8,8,8,8,8,8,8,8,8,8,8,8,8,8,8,8,8,8,8,8,8])) (.t 15))),none,0⟩,
⟨(some 17),(.q (.conv (.int .i64) (.t 16))),none,0⟩,
⟨(some 18),(.q (.bin .add (.p .int) (.t 13) (.t 17))),none,0⟩,
⟨(some 2),(.q (.mv (.t 18))),none,0⟩])
.ret))))⟩
theorem row206 : Row Tryz.prog (206, a206) := ⟨Tryz.f206, Tryz.func206, by kernel_rfl⟩
noncomputable def a207 : AFn :=
⟨25,[(.t 2)],(.seq (.reg [⟨(some 2),(.q (.mv (.c (.int .i64 (.ofNat 0))))),none,0⟩])
(.seq (.seq (.reg [⟨(some 3),(.q (.mv (.t 0))),none,0⟩,
⟨(some 4),(.q (.bin .geq (.p .int) (.t 3) (.c (.int .u64 (.ofNat 4294967296))))),none,0⟩])
(.cond (.t 4) (.seq (.reg [⟨(some 5),(.q (.mv (.t 0))),none,0⟩,
⟨(some 6),(.q (.bin .shr (.p .int) (.t 5) (.c (.int .u64 (.ofNat 32))))),none,0⟩,
⟨(some 0),(.q (.mv (.t 6))),none,0⟩])
(.reg [⟨(some 2),(.q (.mv (.c (.int .i64 (.ofNat 32))))),none,0⟩])) .skip))
(.seq (.seq (.reg [⟨(some 7),(.q (.mv (.t 0))),none,0⟩,
⟨(some 8),(.q (.bin .geq (.p .int) (.t 7) (.c (.int .u64 (.ofNat 65536))))),none,0⟩])
(.cond (.t 8) (.seq (.reg [⟨(some 9),(.q (.mv (.t 0))),none,0⟩,
⟨(some 10),(.q (.bin .shr (.p .int) (.t 9) (.c (.int .u64 (.ofNat 16))))),none,0⟩,
⟨(some 0),(.q (.mv (.t 10))),none,0⟩])
(.reg [⟨(some 11),(.q (.mv (.t 2))),none,0⟩,
⟨(some 12),(.q (.bin .add (.p .int) (.t 11) (.c (.int .i64 (.ofNat 16))))),none,0⟩,
⟨(some 2),(.q (.mv (.t 12))),none,0⟩])) .skip))
(.seq (.seq (.reg [⟨(some 13),(.q (.mv (.t 0))),none,0⟩,
⟨(some 14),(.q (.bin .geq (.p .int) (.t 13) (.c (.int .u64 (.ofNat 256))))),none,0⟩])
(.cond (.t 14) (.seq (.reg [⟨(some 15),(.q (.mv (.t 0))),none,0⟩,
⟨(some 16),(.q (.bin .shr (.p .int) (.t 15) (.c (.int .u64 (.ofNat 8))))),none,0⟩,
⟨(some 0),(.q (.mv (.t 16))),none,0⟩])
(.reg [⟨(some 17),(.q (.mv (.t 2))),none,0⟩,
⟨(some 18),(.q (.bin .add (.p .int) (.t 17) (.c (.int .i64 (.ofNat 8))))),none,0⟩,
⟨(some 2),(.q (.mv (.t 18))),none,0⟩])) .skip))
(.seq (.reg [⟨(some 19),(.q (.mv (.t 2))),none,0⟩,
⟨(some 20),(.q (.mv (.t 0))),none,0⟩,
⟨(some 21),(.q (.conv (.int .u8) (.t 20))),none,0⟩,
⟨(some 22),(.q (.idxStr (.c (.str [0,1,2,2,3,3,3,3,4,4,4,4,4,4,4,4,5,5,5,5,5,5,5,5,5,5,5,5,5,5,5,5,6,6,6,6,6,6,6,6,6,6,6,6,6,6,6,6,6,6,6,6,6,6,6,6,6,6,6,6,6,6,6,6,7,7,7,7,7,7,7,7,7,7,7,7,7,7,7,7,7,7,7,7,7,7,7,7,7,7,7,7,7,7,7,7,7,7,7,7,7,7,7,7,7,7,7,7,7,7,7,7,7,7,7,7,7,7,7,7,7,7,7,7,7,7,7,7,8,8,8,8,8,8,8,8,8,8,8,8,8,8,8,8,8,8,8,8,8,8,8,8,8,8,8,8,8,8,8,8,8,8,8,8,8,8,8,8,8,8,8,8,8,8,8,8,8,8,8,8,8,8,8,8,8,8,8,8,8,8,8,8,8,8,8,8,8,8,8,8,8,8,8,8,8,8,8,8,8,8,8,8,8,8,8,8,8,8,8,8,8,8,8,8,8,8,8,8,8,8,8,8,8,8,8,8,8,8,8,8,8,8,8,8,8,8,8,8,8,8,8,8,8,8,8,8])) (.t 21))),none,0⟩,
⟨(some 23),(.q (.conv (.int .i64) (.t 22))),none,0⟩,
⟨(some 24),(.q (.bin .add (.p .int) (.t 19) (.t 23))),none,0⟩,
⟨(some 2),(.q (.mv (.t 24))),none,0⟩])
.ret)))))⟩
theorem row207 : Row Tryz.prog (207, a207) := ⟨Tryz.f207, Tryz.func207, by kernel_rfl⟩
noncomputable def a208 : AFn :=
⟨57,[(.t 4)],(.seq (.reg [⟨(some 4),(.q (.mv (.c .nilsl))),none,0⟩])
(.seq (.seq (.reg [⟨(some 10),(.q (.mv (.t 0))),none,0⟩,
⟨(some 11),(.q (.lenSl (.t 10))),none,0⟩,
⟨(some 12),(.q (.mv (.t 1))),none,0⟩,
⟨(some 13),(.q (.lenSl (.t 12))),none,0⟩,
⟨(some 14),(.q (.bin .lss (.p .int) (.t 11) (.t 13))),none,0⟩])
(.cond (.t 14) (.reg [⟨(some 15),(.q (.mv (.t 1))),none,0⟩,
⟨(some 16),(.q (.mv (.t 0))),none,0⟩,
⟨(some 0),(.q (.mv (.t 15))),none,0⟩,
⟨(some 1),(.q (.mv (.t 16))),none,0⟩]) .skip))
(.seq (.reg [⟨(some 17),(.q (.mv (.t 0))),none,0⟩,
⟨(some 18),(.q (.lenSl (.t 17))),none,0⟩,
⟨(some 19),(.q (.bin .add (.p .int) (.t 18) (.c (.int .i64 (.ofNat 1))))),none,0⟩,
⟨(some 20),(.a (.mkSlice 149 1 4 [(.int .u32 (.ofNat 0))] (.c (.int .i64 (.ofNat 0))) (.t 19))),none,0⟩,
⟨(some 5),(.q (.mv (.t 20))),none,0⟩])
(.seq (.reg [⟨(some 6),(.q (.mv (.c (.int .u32 (.ofNat 0))))),none,0⟩])
(.seq (.seq (.reg [⟨(some 21),(.q (.mv (.t 0))),none,0⟩,
⟨(some 22),(.q (.lenSl (.t 21))),none,0⟩,
⟨(some 23),(.q (.mv (.c (.int .i64 (.ofNat 0))))),none,0⟩])
(.block 0 (.loop (.seq (.reg [⟨(some 24),(.q (.bin .lss (.p .int) (.t 23) (.t 22))),none,0⟩])
(.seq (.cond (.t 24) .skip (.exit 0))
(.seq (.block 1 (.seq (.reg [⟨(some 25),(.q (.mv (.t 23))),none,0⟩,
⟨(some 26),(.q (.iaddr (.slice 1) (.t 21) (.t 23))),none,0⟩,
⟨(some 27),(.q (.ld false 1 (.t 26))),none,0⟩,
⟨(some 7),(.q (.mv (.t 25))),none,0⟩,
⟨(some 8),(.q (.mv (.t 27))),none,0⟩])
(.seq (.reg [⟨(some 28),(.q (.mv (.t 8))),none,0⟩,
⟨(some 29),(.q (.mv (.t 6))),none,0⟩,
⟨(some 30),(.q (.bin .add (.p .int) (.t 28) (.t 29))),none,0⟩,
⟨(some 9),(.q (.mv (.t 30))),none,0⟩])
(.seq (.seq (.reg [⟨(some 31),(.q (.mv (.t 7))),none,0⟩,
⟨(some 32),(.q (.mv (.t 1))),none,0⟩,
⟨(some 33),(.q (.lenSl (.t 32))),none,0⟩,
⟨(some 34),(.q (.bin .lss (.p .int) (.t 31) (.t 33))),none,0⟩])
(.cond (.t 34) (.reg [⟨(some 35),(.q (.mv (.t 9))),none,0⟩,
⟨(some 36),(.q (.mv (.t 1))),none,0⟩,
⟨(some 37),(.q (.mv (.t 7))),none,0⟩,
⟨(some 38),(.q (.iaddr (.slice 1) (.t 36) (.t 37))),none,0⟩,
⟨(some 39),(.q (.ld false 1 (.t 38))),none,0⟩,
⟨(some 40),(.q (.bin .add (.p .int) (.t 35) (.t 39))),none,0⟩,
⟨(some 9),(.q (.mv (.t 40))),none,0⟩]) .skip))
(.seq (.reg [⟨(some 6),(.q (.mv (.c (.int .u32 (.ofNat 0))))),none,0⟩])
(.seq (.seq (.reg [⟨(some 41),(.q (.mv (.t 9))),none,0⟩,
⟨(some 42),(.q (.bin .geq (.p .int) (.t 41) (.c (.int .u32 (.ofNat 1000000000))))),none,0⟩])
(.cond (.t 42) (.seq (.reg [⟨(some 43),(.q (.mv (.t 9))),none,0⟩,
⟨(some 44),(.q (.bin .sub (.p .int) (.t 43) (.c (.int .u32 (.ofNat 1000000000))))),none,0⟩,
⟨(some 9),(.q (.mv (.t 44))),none,0⟩])
(.reg [⟨(some 6),(.q (.mv (.c (.int .u32 (.ofNat 1))))),none,0⟩])) .skip))
(.reg [⟨(some 45),(.q (.mv (.t 5))),none,0⟩,
⟨(some 46),(.q (.mv (.t 9))),none,0⟩,
⟨(some 47),(.a (.bslice 149 1 1 [(.int .u32 (.ofNat 0))] [(0,(.t 46))])),none,0⟩,
⟨(some 48),(.x (.app 149 1 4 (.t 45) (.t 47))),none,0⟩,
⟨(some 5),(.q (.mv (.t 48))),none,0⟩])))))))
(.reg [⟨(some 49),(.q (.bin .add (.p .int) (.t 23) (.c (.int .i64 (.ofNat 1))))),none,0⟩,
⟨(some 23),(.q (.mv (.t 49))),none,0⟩])))))))
(.seq (.seq (.reg [⟨(some 50),(.q (.mv (.t 6))),none,0⟩,
⟨(some 51),(.q (.bin .gtr (.p .int) (.t 50) (.c (.int .u32 (.ofNat 0))))),none,0⟩])
(.cond (.t 51) (.reg [⟨(some 52),(.q (.mv (.t 5))),none,0⟩,
⟨(some 53),(.q (.mv (.t 6))),none,0⟩,
⟨(some 54),(.a (.bslice 149 1 1 [(.int .u32 (.ofNat 0))] [(0,(.t 53))])),none,0⟩,
⟨(some 55),(.x (.app 149 1 4 (.t 52) (.t 54))),none,0⟩,
⟨(some 5),(.q (.mv (.t 55))),none,0⟩]) .skip))
(.seq (.reg [⟨(some 56),(.q (.mv (.t 5))),none,0⟩,
⟨(some 4),(.q (.mv (.t 56))),none,0⟩])
.ret)))))))⟩
theorem row208 : Row Tryz.prog (208, a208) := ⟨Tryz.f208, Tryz.func208, by kernel_rfl⟩
noncomputable def a209 : AFn :=
⟨41,[(.t 4)],(.seq (.reg [⟨(some 4),(.q (.mv (.c (.int .i64 (.ofNat 0))))),none,0⟩])
(.seq (.seq (.reg [⟨(some 6),(.q (.mv (.t 0))),none,0⟩,
⟨(some 7),(.q (.lenSl (.t 6))),none,0⟩,
⟨(some 8),(.q (.mv (.t 1))),none,0⟩,
⟨(some 9),(.q (.lenSl (.t 8))),none,0⟩,
⟨(some 10),(.q (.bin .neq (.p .int) (.t 7) (.t 9))),none,0⟩])
(.cond (.t 10) (.seq (.reg [⟨(some 11),(.q (.mv (.t 0))),none,0⟩,
⟨(some 12),(.q (.lenSl (.t 11))),none,0⟩,
⟨(some 13),(.q (.mv (.t 1))),none,0⟩,
⟨(some 14),(.q (.lenSl (.t 13))),none,0⟩,
⟨(some 15),(.x (.call (.c (.fn 246 [] [])) [(.t 12),(.t 14)])),none,0⟩,
⟨(some 4),(.q (.mv (.t 15))),none,0⟩])
.ret) .skip))
(.seq (.seq (.reg [⟨(some 16),(.q (.mv (.t 0))),none,0⟩,
⟨(some 17),(.q (.lenSl (.t 16))),none,0⟩,
⟨(some 18),(.q (.bin .sub (.p .int) (.t 17) (.c (.int .i64 (.ofNat 1))))),none,0⟩,
⟨(some 5),(.q (.mv (.t 18))),none,0⟩])
(.block 0 (.loop (.seq (.seq (.reg [⟨(some 19),(.q (.mv (.t 5))),none,0⟩,
⟨(some 20),(.q (.bin .geq (.p .int) (.t 19) (.c (.int .i64 (.ofNat 0))))),none,0⟩])
(.cond (.t 20) .skip (.exit 0)))
(.seq (.block 1 (.seq (.drw [⟨(some 23),(.q (.mv (.t 0))),none,0⟩,
⟨(some 24),(.q (.mv (.t 5))),none,0⟩,
⟨(some 25),(.q (.iaddr (.slice 1) (.t 23) (.t 24))),none,3⟩,
⟨(some 26),(.q (.ld false 1 (.t 25))),none,7⟩,
⟨(some 27),(.q (.mv (.t 1))),none,0⟩,
⟨(some 28),(.q (.mv (.t 5))),none,0⟩,
⟨(some 29),(.q (.iaddr (.slice 1) (.t 27) (.t 28))),none,48⟩,
⟨(some 30),(.q (.ld false 1 (.t 29))),none,112⟩,
⟨(some 31),(.q (.bin .neq (.p .int) (.t 26) (.t 30))),none,255⟩])
(.cond (.t 31) (.seq (.drw [⟨(some 32),(.q (.mv (.t 0))),none,0⟩,
⟨(some 33),(.q (.mv (.t 5))),none,0⟩,
⟨(some 34),(.q (.iaddr (.slice 1) (.t 32) (.t 33))),none,3⟩,
⟨(some 35),(.q (.ld false 1 (.t 34))),none,7⟩,
⟨(some 36),(.q (.mv (.t 1))),none,0⟩,
⟨(some 37),(.q (.mv (.t 5))),none,0⟩,
⟨(some 38),(.q (.iaddr (.slice 1) (.t 36) (.t 37))),none,48⟩,
⟨(some 39),(.q (.ld false 1 (.t 38))),none,112⟩,
⟨(some 40),(.x (.call (.c (.fn 247 [] [])) [(.t 35),(.t 39)])),none,255⟩,
⟨(some 4),(.q (.mv (.t 40))),none,511⟩])
.ret) .skip)))
(.reg [⟨(some 21),(.q (.mv (.t 5))),none,0⟩,
⟨(some 22),(.q (.bin .sub (.p .int) (.t 21) (.c (.int .i64 (.ofNat 1))))),none,0⟩,
⟨(some 5),(.q (.mv (.t 22))),none,0⟩]))))))
(.seq (.reg [⟨(some 4),(.q (.mv (.c (.int .i64 (.ofNat 0))))),none,0⟩])
.ret))))⟩
theorem row209 : Row Tryz.prog (209, a209) := ⟨Tryz.f209, Tryz.func209, by kernel_rfl⟩
noncomputable def a210 : AFn :=
⟨45,[(.t 4)],(.seq (.reg [⟨(some 4),(.q (.mv (.c .nilsl))),none,0⟩])
(.seq (.reg [⟨(some 10),(.q (.mv (.t 0))),none,0⟩,
⟨(some 11),(.q (.lenSl (.t 10))),none,0⟩,
⟨(some 12),(.a (.mkSlice 149 1 4 [(.int .u32 (.ofNat 0))] (.t 11) (.t 11))),none,0⟩,
⟨(some 5),(.q (.mv (.t 12))),none,0⟩])
(.seq (.reg [⟨(some 6),(.q (.mv (.c (.int .u32 (.ofNat 0))))),none,0⟩])
(.seq (.seq (.reg [⟨(some 13),(.q (.mv (.t 0))),none,0⟩,
⟨(some 14),(.q (.lenSl (.t 13))),none,0⟩,
⟨(some 15),(.q (.mv (.c (.int .i64 (.ofNat 0))))),none,0⟩])
(.block 0 (.loop (.seq (.reg [⟨(some 16),(.q (.bin .lss (.p .int) (.t 15) (.t 14))),none,0⟩])
(.seq (.cond (.t 16) .skip (.exit 0))
(.seq (.block 1 (.seq (.reg [⟨(some 17),(.q (.mv (.t 15))),none,0⟩,
⟨(some 18),(.q (.iaddr (.slice 1) (.t 13) (.t 15))),none,0⟩,
⟨(some 19),(.q (.ld false 1 (.t 18))),none,0⟩,
⟨(some 7),(.q (.mv (.t 17))),none,0⟩,
⟨(some 8),(.q (.mv (.t 19))),none,0⟩])
(.seq (.reg [⟨(some 20),(.q (.mv (.t 6))),none,0⟩,
⟨(some 9),(.q (.mv (.t 20))),none,0⟩])
(.seq (.seq (.reg [⟨(some 21),(.q (.mv (.t 7))),none,0⟩,
⟨(some 22),(.q (.mv (.t 1))),none,0⟩,
⟨(some 23),(.q (.lenSl (.t 22))),none,0⟩,
⟨(some 24),(.q (.bin .lss (.p .int) (.t 21) (.t 23))),none,0⟩])
(.cond (.t 24) (.reg [⟨(some 25),(.q (.mv (.t 9))),none,0⟩,
⟨(some 26),(.q (.mv (.t 1))),none,0⟩,
⟨(some 27),(.q (.mv (.t 7))),none,0⟩,
⟨(some 28),(.q (.iaddr (.slice 1) (.t 26) (.t 27))),none,0⟩,
⟨(some 29),(.q (.ld false 1 (.t 28))),none,0⟩,
⟨(some 30),(.q (.bin .add (.p .int) (.t 25) (.t 29))),none,0⟩,
⟨(some 9),(.q (.mv (.t 30))),none,0⟩]) .skip))
(.seq (.reg [⟨(some 6),(.q (.mv (.c (.int .u32 (.ofNat 0))))),none,0⟩])
(.seq (.seq (.reg [⟨(some 31),(.q (.mv (.t 8))),none,0⟩,
⟨(some 32),(.q (.mv (.t 9))),none,0⟩,
⟨(some 33),(.q (.bin .lss (.p .int) (.t 31) (.t 32))),none,0⟩])
(.cond (.t 33) (.seq (.reg [⟨(some 34),(.q (.mv (.t 8))),none,0⟩,
⟨(some 35),(.q (.bin .add (.p .int) (.t 34) (.c (.int .u32 (.ofNat 1000000000))))),none,0⟩,
⟨(some 8),(.q (.mv (.t 35))),none,0⟩])
(.reg [⟨(some 6),(.q (.mv (.c (.int .u32 (.ofNat 1))))),none,0⟩])) .skip))
(.reg [⟨(some 36),(.q (.mv (.t 5))),none,0⟩,
⟨(some 37),(.q (.mv (.t 7))),none,0⟩,
⟨(some 38),(.q (.mv (.t 8))),none,0⟩,
⟨(some 39),(.q (.mv (.t 9))),none,0⟩,
⟨(some 40),(.q (.bin .sub (.p .int) (.t 38) (.t 39))),none,0⟩,
⟨(some 41),(.q (.iaddr (.slice 1) (.t 36) (.t 37))),none,0⟩,
⟨none,(.x (.st 1 (.t 41) (.t 40))),none,0⟩])))))))
(.reg [⟨(some 42),(.q (.bin .add (.p .int) (.t 15) (.c (.int .i64 (.ofNat 1))))),none,0⟩,
⟨(some 15),(.q (.mv (.t 42))),none,0⟩])))))))
(.seq (.reg [⟨(some 43),(.q (.mv (.t 5))),none,0⟩,
⟨(some 44),(.x (.call (.c (.fn 215 [] [])) [(.t 43)])),none,0⟩,
⟨(some 4),(.q (.mv (.t 44))),none,0⟩])
.ret)))))⟩
theorem row210 : Row Tryz.prog (210, a210) := ⟨Tryz.f210, Tryz.func210, by kernel_rfl⟩
noncomputable def a211 : AFn :=
⟨12,[(.t 2)],(.seq (.reg [⟨(some 2),(.q (.mv (.c (.bool false)))),none,0⟩])
(.seq (.reg [⟨(some 3),(.q (.mv (.t 0))),none,0⟩,
⟨(some 4),(.q (.lenSl (.t 3))),none,0⟩,
⟨(some 5),(.q (.bin .eql (.p .int) (.t 4) (.c (.int .i64 (.ofNat 1))))),none,0⟩,
⟨(some 6),(.q (.mv (.t 5))),none,0⟩,
⟨(some 7),(.q (.mv (.t 0))),(some (6,true)),0⟩,
⟨(some 8),(.q (.iaddr (.slice 1) (.t 7) (.c (.int .i64 (.ofNat 0))))),(some (6,true)),0⟩,
⟨(some 9),(.q (.ld false 1 (.t 8))),(some (6,true)),0⟩,
⟨(some 10),(.q (.bin .eql (.p .int) (.t 9) (.c (.int .u32 (.ofNat 1))))),(some (6,true)),0⟩,
⟨(some 11),(.q (.pick (.t 6) (.t 10) (.c (.bool false)))),none,0⟩,
⟨(some 2),(.q (.mv (.t 11))),none,0⟩])
.ret))⟩
theorem row211 : Row Tryz.prog (211, a211) := ⟨Tryz.f211, Tryz.func211, by kernel_rfl⟩
noncomputable def a212 : AFn :=
⟨94,[(.t 4),(.t 5),(.t 6)],(.seq (.reg [⟨(some 4),(.q (.mv (.c .nilsl))),none,0⟩,
⟨(some 5),(.q (.mv (.c .nilsl))),none,0⟩,
⟨(some 6),(.q (.mv (.c (.bool false)))),none,0⟩])
(.seq (.reg [⟨(some 16),(.q (.mv (.t 0))),none,0⟩,
⟨(some 17),(.q (.mv (.t 0))),none,0⟩,
⟨(some 18),(.q (.lenSl (.t 17))),none,0⟩,
⟨(some 19),(.x (.call (.c (.fn 248 [] [])) [(.t 16),(.t 18)])),none,0⟩,
⟨(some 20),(.q (.mv (.t 1))),none,0⟩,
⟨(some 21),(.q (.mv (.t 0))),none,0⟩,
⟨(some 22),(.q (.lenSl (.t 21))),none,0⟩,
⟨(some 23),(.x (.call (.c (.fn 248 [] [])) [(.t 20),(.t 22)])),none,0⟩,
⟨(some 7),(.q (.mv (.t 19))),none,0⟩,
⟨(some 8),(.q (.mv (.t 23))),none,0⟩])
(.seq (.reg [⟨(some 9),(.q (.mv (.c (.int .i64 (.ofNat 1))))),none,0⟩,
⟨(some 10),(.q (.mv (.c (.int .i64 (.ofNat 0))))),none,0⟩,
⟨(some 11),(.q (.mv (.c (.int .i64 (.ofNat 0))))),none,0⟩,
⟨(some 12),(.q (.mv (.c (.int .i64 (.ofNat 1))))),none,0⟩])
(.seq (.block 0 (.loop (.seq (.seq (.reg [⟨(some 24),(.q (.mv (.t 8))),none,0⟩,
⟨(some 25),(.q (.mv (.t 11))),none,0⟩,
⟨(some 26),(.q (.bin .add (.p .int) (.t 24) (.t 25))),none,0⟩,
⟨(some 27),(.q (.bin .neq (.p .int) (.t 26) (.c (.int .i64 (.ofNat 0))))),none,0⟩,
⟨(some 28),(.q (.mv (.t 27))),none,0⟩,
⟨(some 29),(.q (.mv (.t 8))),(some (28,true)),0⟩,
⟨(some 30),(.q (.mv (.t 12))),(some (28,true)),0⟩,
⟨(some 31),(.q (.bin .add (.p .int) (.t 29) (.t 30))),(some (28,true)),0⟩,
⟨(some 32),(.q (.bin .neq (.p .int) (.t 31) (.c (.int .i64 (.ofNat 0))))),(some (28,true)),0⟩,
⟨(some 33),(.q (.pick (.t 28) (.t 32) (.c (.bool false)))),none,0⟩])
(.cond (.t 33) .skip (.exit 0)))
(.block 1 (.seq (.reg [⟨(some 34),(.q (.mv (.t 7))),none,0⟩,
⟨(some 35),(.q (.mv (.t 9))),none,0⟩,
⟨(some 36),(.q (.bin .add (.p .int) (.t 34) (.t 35))),none,0⟩,
⟨(some 37),(.q (.mv (.t 8))),none,0⟩,
⟨(some 38),(.q (.mv (.t 11))),none,0⟩,
⟨(some 39),(.q (.bin .add (.p .int) (.t 37) (.t 38))),none,0⟩,
⟨(some 40),(.q (.bin .quo (.p .int) (.t 36) (.t 39))),none,0⟩,
⟨(some 13),(.q (.mv (.t 40))),none,0⟩])
(.seq (.seq (.reg [⟨(some 41),(.q (.mv (.t 13))),none,0⟩,
⟨(some 42),(.q (.mv (.t 7))),none,0⟩,
⟨(some 43),(.q (.mv (.t 10))),none,0⟩,
⟨(some 44),(.q (.bin .add (.p .int) (.t 42) (.t 43))),none,0⟩,
⟨(some 45),(.q (.mv (.t 8))),none,0⟩,
⟨(some 46),(.q (.mv (.t 12))),none,0⟩,
⟨(some 47),(.q (.bin .add (.p .int) (.t 45) (.t 46))),none,0⟩,
⟨(some 48),(.q (.bin .quo (.p .int) (.t 44) (.t 47))),none,0⟩,
⟨(some 49),(.q (.bin .neq (.p .int) (.t 41) (.t 48))),none,0⟩,
⟨(some 50),(.q (.mv (.t 49))),none,0⟩,
⟨(some 51),(.q (.mv (.t 13))),(some (50,false)),0⟩,
⟨(some 52),(.q (.bin .geq (.p .int) (.t 51) (.c (.int .i64 (.ofNat 1000000000))))),(some (50,false)),0⟩,
⟨(some 53),(.q (.pick (.t 50) (.c (.bool true)) (.t 52))),none,0⟩])
(.cond (.t 53) (.exit 0) .skip))
(.seq (.reg [⟨(some 54),(.q (.mv (.t 9))),none,0⟩,
⟨(some 55),(.q (.mv (.t 13))),none,0⟩,
⟨(some 56),(.q (.mv (.t 11))),none,0⟩,
⟨(some 57),(.q (.bin .mul (.p .int) (.t 55) (.t 56))),none,0⟩,
⟨(some 58),(.q (.bin .sub (.p .int) (.t 54) (.t 57))),none,0⟩,
⟨(some 59),(.q (.mv (.t 10))),none,0⟩,
⟨(some 60),(.q (.mv (.t 13))),none,0⟩,
⟨(some 61),(.q (.mv (.t 12))),none,0⟩,
⟨(some 62),(.q (.bin .mul (.p .int) (.t 60) (.t 61))),none,0⟩,
⟨(some 63),(.q (.bin .sub (.p .int) (.t 59) (.t 62))),none,0⟩,
⟨(some 14),(.q (.mv (.t 58))),none,0⟩,
⟨(some 15),(.q (.mv (.t 63))),none,0⟩])
(.seq (.seq (.reg [⟨(some 64),(.q (.mv (.t 14))),none,0⟩,
⟨(some 65),(.q (.mv (.t 14))),none,0⟩,
⟨(some 66),(.q (.un .neg (.t 65))),none,0⟩,
⟨(some 67),(.q (.mv (.t 15))),none,0⟩,
⟨(some 68),(.q (.mv (.t 15))),none,0⟩,
⟨(some 69),(.q (.un .neg (.t 68))),none,0⟩,
⟨(some 70),(.q (.minmax true [(.t 64),(.t 66),(.t 67),(.t 69)])),none,0⟩,
⟨(some 71),(.q (.bin .geq (.p .int) (.t 70) (.c (.int .i64 (.ofNat 1000000000))))),none,0⟩])
(.cond (.t 71) (.exit 0) .skip))
(.seq (.reg [⟨(some 72),(.q (.mv (.t 11))),none,0⟩,
⟨(some 73),(.q (.mv (.t 12))),none,0⟩,
⟨(some 74),(.q (.mv (.t 14))),none,0⟩,
⟨(some 75),(.q (.mv (.t 15))),none,0⟩,
⟨(some 9),(.q (.mv (.t 72))),none,0⟩,
⟨(some 10),(.q (.mv (.t 73))),none,0⟩,
⟨(some 11),(.q (.mv (.t 74))),none,0⟩,
⟨(some 12),(.q (.mv (.t 75))),none,0⟩])
(.reg [⟨(some 76),(.q (.mv (.t 8))),none,0⟩,
⟨(some 77),(.q (.mv (.t 7))),none,0⟩,
⟨(some 78),(.q (.mv (.t 13))),none,0⟩,
⟨(some 79),(.q (.mv (.t 8))),none,0⟩,
⟨(some 80),(.q (.bin .mul (.p .int) (.t 78) (.t 79))),none,0⟩,
⟨(some 81),(.q (.bin .sub (.p .int) (.t 77) (.t 80))),none,0⟩,
⟨(some 7),(.q (.mv (.t 76))),none,0⟩,
⟨(some 8),(.q (.mv (.t 81))),none,0⟩]))))))))))
(.seq (.seq (.reg [⟨(some 82),(.q (.mv (.t 10))),none,0⟩,
⟨(some 83),(.q (.bin .eql (.p .int) (.t 82) (.c (.int .i64 (.ofNat 0))))),none,0⟩])
(.cond (.t 83) (.seq (.reg [⟨(some 4),(.q (.mv (.c .nilsl))),none,0⟩,
⟨(some 5),(.q (.mv (.c .nilsl))),none,0⟩,
⟨(some 6),(.q (.mv (.c (.bool false)))),none,0⟩])
.ret) .skip))
(.seq (.reg [⟨(some 84),(.q (.mv (.t 0))),none,0⟩,
⟨(some 85),(.q (.mv (.t 1))),none,0⟩,
⟨(some 86),(.q (.mv (.t 9))),none,0⟩,
⟨(some 87),(.q (.mv (.t 10))),none,0⟩,
⟨(some 88),(.x (.call (.c (.fn 249 [] [])) [(.t 84),(.t 85),(.t 86),(.t 87)])),none,0⟩,
⟨(some 89),(.q (.mv (.t 0))),none,0⟩,
⟨(some 90),(.q (.mv (.t 1))),none,0⟩,
⟨(some 91),(.q (.mv (.t 11))),none,0⟩,
⟨(some 92),(.q (.mv (.t 12))),none,0⟩,
⟨(some 93),(.x (.call (.c (.fn 249 [] [])) [(.t 89),(.t 90),(.t 91),(.t 92)])),none,0⟩,
⟨(some 4),(.q (.mv (.t 88))),none,0⟩,
⟨(some 5),(.q (.mv (.t 93))),none,0⟩,
⟨(some 6),(.q (.mv (.c (.bool true)))),none,0⟩])
.ret))))))⟩
theorem row212 : Row Tryz.prog (212, a212) := ⟨Tryz.f212, Tryz.func212, by kernel_rfl⟩
noncomputable def a213 : AFn :=
⟨91,[(.t 4),(.t 5)],(.seq (.reg [⟨(some 4),(.q (.mv (.c .nilsl))),none,0⟩,
⟨(some 5),(.q (.mv (.c .nilsl))),none,0⟩])
(.seq (.seq (.reg [⟨(some 13),(.q (.mv (.t 0))),none,0⟩,
⟨(some 14),(.q (.mv (.t 1))),none,0⟩,
⟨(some 15),(.x (.call (.c (.fn 209 [] [])) [(.t 13),(.t 14)])),none,0⟩,
⟨(some 16),(.q (.bin .lss (.p .int) (.t 15) (.c (.int .i64 (.ofNat 0))))),none,0⟩])
(.cond (.t 16) (.seq (.reg [⟨(some 17),(.q (.mv (.t 0))),none,0⟩,
⟨(some 4),(.q (.mv (.c .nilsl))),none,0⟩,
⟨(some 5),(.q (.mv (.t 17))),none,0⟩])
.ret) .skip))
(.seq (.seq (.reg [⟨(some 18),(.q (.mv (.t 1))),none,0⟩,
⟨(some 19),(.q (.lenSl (.t 18))),none,0⟩,
⟨(some 20),(.q (.bin .eql (.p .int) (.t 19) (.c (.int .i64 (.ofNat 1))))),none,0⟩])
(.cond (.t 20) (.seq (.reg [⟨(some 22),(.q (.mv (.t 0))),none,0⟩,
⟨(some 23),(.q (.mv (.t 1))),none,0⟩,
⟨(some 24),(.q (.iaddr (.slice 1) (.t 23) (.c (.int .i64 (.ofNat 0))))),none,0⟩,
⟨(some 25),(.q (.ld false 1 (.t 24))),none,0⟩,
⟨(some 26),(.q (.conv (.int .u64) (.t 25))),none,0⟩,
⟨(some 27),(.x (.call (.c (.fn 250 [] [])) [(.t 22),(.t 26)])),none,0⟩,
⟨(some 21),(.q (.mv (.t 27))),none,0⟩,
⟨(some 28),(.q (.extract (.t 21) 0)),none,0⟩,
⟨(some 29),(.q (.extract (.t 21) 1)),none,0⟩,
⟨(some 6),(.q (.mv (.t 28))),none,0⟩,
⟨(some 7),(.q (.mv (.t 29))),none,0⟩])
(.seq (.reg [⟨(some 30),(.q (.mv (.t 6))),none,0⟩,
⟨(some 31),(.q (.mv (.t 7))),none,0⟩,
⟨(some 32),(.x (.call (.c (.fn 156 [] [])) [(.t 31)])),none,0⟩,
⟨(some 4),(.q (.mv (.t 30))),none,0⟩,
⟨(some 5),(.q (.mv (.t 32))),none,0⟩])
.ret)) .skip))
(.seq (.reg [⟨(some 33),(.q (.mv (.t 1))),none,0⟩,
⟨(some 34),(.q (.lenSl (.t 33))),none,0⟩,
⟨(some 8),(.q (.mv (.t 34))),none,0⟩])
(.seq (.reg [⟨(some 35),(.q (.mv (.t 1))),none,0⟩,
⟨(some 36),(.q (.mv (.t 8))),none,0⟩,
⟨(some 37),(.q (.bin .sub (.p .int) (.t 36) (.c (.int .i64 (.ofNat 1))))),none,0⟩,
⟨(some 38),(.q (.iaddr (.slice 1) (.t 35) (.t 37))),none,0⟩,
⟨(some 39),(.q (.ld false 1 (.t 38))),none,0⟩,
⟨(some 40),(.q (.conv (.int .u64) (.t 39))),none,0⟩,
⟨(some 41),(.q (.bin .add (.p .int) (.t 40) (.c (.int .u64 (.ofNat 1))))),none,0⟩,
⟨(some 42),(.q (.bin .quo (.p .int) (.c (.int .u64 (.ofNat 1000000000))) (.t 41))),none,0⟩,
⟨(some 9),(.q (.mv (.t 42))),none,0⟩])
(.seq (.reg [⟨(some 43),(.q (.mv (.t 1))),none,0⟩,
⟨(some 44),(.q (.mv (.t 9))),none,0⟩,
⟨(some 45),(.q (.mv (.t 8))),none,0⟩,
⟨(some 46),(.x (.call (.c (.fn 251 [] [])) [(.t 43),(.t 44),(.t 45)])),none,0⟩,
⟨(some 10),(.q (.mv (.t 46))),none,0⟩])
(.seq (.reg [⟨(some 47),(.q (.mv (.t 0))),none,0⟩,
⟨(some 48),(.q (.mv (.t 9))),none,0⟩,
⟨(some 49),(.q (.mv (.t 0))),none,0⟩,
⟨(some 50),(.q (.lenSl (.t 49))),none,0⟩,
⟨(some 51),(.q (.bin .add (.p .int) (.t 50) (.c (.int .i64 (.ofNat 1))))),none,0⟩,
⟨(some 52),(.x (.call (.c (.fn 251 [] [])) [(.t 47),(.t 48),(.t 51)])),none,0⟩,
⟨(some 11),(.q (.mv (.t 52))),none,0⟩])
(.seq (.reg [⟨(some 53),(.q (.mv (.t 0))),none,0⟩,
⟨(some 54),(.q (.lenSl (.t 53))),none,0⟩,
⟨(some 55),(.q (.mv (.t 8))),none,0⟩,
⟨(some 56),(.q (.bin .sub (.p .int) (.t 54) (.t 55))),none,0⟩,
⟨(some 57),(.q (.bin .add (.p .int) (.t 56) (.c (.int .i64 (.ofNat 1))))),none,0⟩,
⟨(some 58),(.a (.mkSlice 149 1 4 [(.int .u32 (.ofNat 0))] (.t 57) (.t 57))),none,0⟩,
⟨(some 4),(.q (.mv (.t 58))),none,0⟩])
(.seq (.seq (.reg [⟨(some 59),(.q (.mv (.t 0))),none,0⟩,
⟨(some 60),(.q (.lenSl (.t 59))),none,0⟩,
⟨(some 61),(.q (.mv (.t 8))),none,0⟩,
⟨(some 62),(.q (.bin .sub (.p .int) (.t 60) (.t 61))),none,0⟩,
⟨(some 12),(.q (.mv (.t 62))),none,0⟩])
(.block 0 (.loop (.seq (.seq (.reg [⟨(some 63),(.q (.mv (.t 12))),none,0⟩,
⟨(some 64),(.q (.bin .geq (.p .int) (.t 63) (.c (.int .i64 (.ofNat 0))))),none,0⟩])
(.cond (.t 64) .skip (.exit 0)))
(.seq (.block 1 (.reg [⟨(some 67),(.q (.mv (.t 4))),none,0⟩,
⟨(some 68),(.q (.mv (.t 12))),none,0⟩,
⟨(some 69),(.q (.mv (.t 11))),none,0⟩,
⟨(some 70),(.q (.mv (.t 12))),none,0⟩,
⟨(some 71),(.q (.mv (.t 12))),none,0⟩,
⟨(some 72),(.q (.mv (.t 8))),none,0⟩,
⟨(some 73),(.q (.bin .add (.p .int) (.t 71) (.t 72))),none,0⟩,
⟨(some 74),(.q (.bin .add (.p .int) (.t 73) (.c (.int .i64 (.ofNat 1))))),none,0⟩,
⟨(some 75),(.q (.slc (.slice 1) (.t 69) (some (.t 70)) (some (.t 74)) none)),none,0⟩,
⟨(some 76),(.q (.mv (.t 10))),none,0⟩,
⟨(some 77),(.x (.call (.c (.fn 252 [] [])) [(.t 75),(.t 76)])),none,0⟩,
⟨(some 78),(.q (.iaddr (.slice 1) (.t 67) (.t 68))),none,0⟩,
⟨none,(.x (.st 1 (.t 78) (.t 77))),none,0⟩]))
(.reg [⟨(some 65),(.q (.mv (.t 12))),none,0⟩,
⟨(some 66),(.q (.bin .sub (.p .int) (.t 65) (.c (.int .i64 (.ofNat 1))))),none,0⟩,
⟨(some 12),(.q (.mv (.t 66))),none,0⟩]))))))
(.seq (.reg [⟨(some 80),(.q (.mv (.t 11))),none,0⟩,
⟨(some 81),(.q (.mv (.t 8))),none,0⟩,
⟨(some 82),(.q (.slc (.slice 1) (.t 80) none (some (.t 81)) none)),none,0⟩,
⟨(some 83),(.x (.call (.c (.fn 215 [] [])) [(.t 82)])),none,0⟩,
⟨(some 84),(.q (.mv (.t 9))),none,0⟩,
⟨(some 85),(.x (.call (.c (.fn 250 [] [])) [(.t 83),(.t 84)])),none,0⟩,
⟨(some 79),(.q (.mv (.t 85))),none,0⟩,
⟨(some 86),(.q (.extract (.t 79) 0)),none,0⟩,
⟨(some 87),(.q (.extract (.t 79) 1)),none,0⟩,
⟨(some 5),(.q (.mv (.t 86))),none,0⟩])
(.seq (.reg [⟨(some 88),(.q (.mv (.t 4))),none,0⟩,
⟨(some 89),(.x (.call (.c (.fn 215 [] [])) [(.t 88)])),none,0⟩,
⟨(some 90),(.q (.mv (.t 5))),none,0⟩,
⟨(some 4),(.q (.mv (.t 89))),none,0⟩,
⟨(some 5),(.q (.mv (.t 90))),none,0⟩])
.ret)))))))))))⟩
theorem row213 : Row Tryz.prog (213, a213) := ⟨Tryz.f213, Tryz.func213, by kernel_rfl⟩
noncomputable def a214 : AFn :=
⟨21,[(.t 2)],(.seq (.reg [⟨(some 2),(.q (.mv (.c (.int .u64 (.ofNat 0))))),none,0⟩])
(.seq (.reg [⟨(some 3),(.q (.mv (.c (.int .u64 (.ofNat 0))))),none,0⟩])
(.seq (.seq (.reg [⟨(some 5),(.q (.mv (.t 0))),none,0⟩,
⟨(some 6),(.q (.lenSl (.t 5))),none,0⟩,
⟨(some 7),(.q (.bin .sub (.p .int) (.t 6) (.c (.int .i64 (.ofNat 1))))),none,0⟩,
⟨(some 4),(.q (.mv (.t 7))),none,0⟩])
(.block 0 (.loop (.seq (.seq (.reg [⟨(some 8),(.q (.mv (.t 4))),none,0⟩,
⟨(some 9),(.q (.bin .geq (.p .int) (.t 8) (.c (.int .i64 (.ofNat 0))))),none,0⟩])
(.cond (.t 9) .skip (.exit 0)))
(.seq (.block 1 (.reg [⟨(some 12),(.q (.mv (.t 3))),none,0⟩,
⟨(some 13),(.q (.bin .mul (.p .int) (.t 12) (.c (.int .u64 (.ofNat 1000000000))))),none,0⟩,
⟨(some 14),(.q (.mv (.t 0))),none,0⟩,
⟨(some 15),(.q (.mv (.t 4))),none,0⟩,
⟨(some 16),(.q (.iaddr (.slice 1) (.t 14) (.t 15))),none,0⟩,
⟨(some 17),(.q (.ld false 1 (.t 16))),none,0⟩,
⟨(some 18),(.q (.conv (.int .u64) (.t 17))),none,0⟩,
⟨(some 19),(.q (.bin .add (.p .int) (.t 13) (.t 18))),none,0⟩,
⟨(some 3),(.q (.mv (.t 19))),none,0⟩]))
(.reg [⟨(some 10),(.q (.mv (.t 4))),none,0⟩,
⟨(some 11),(.q (.bin .sub (.p .int) (.t 10) (.c (.int .i64 (.ofNat 1))))),none,0⟩,
⟨(some 4),(.q (.mv (.t 11))),none,0⟩]))))))
(.seq (.reg [⟨(some 20),(.q (.mv (.t 3))),none,0⟩,
⟨(some 2),(.q (.mv (.t 20))),none,0⟩])
.ret))))⟩
theorem row214 : Row Tryz.prog (214, a214) := ⟨Tryz.f214, Tryz.func214, by kernel_rfl⟩
noncomputable def a215 : AFn :=
⟨21,[(.t 2)],(.seq (.reg [⟨(some 2),(.q (.mv (.c .nilsl))),none,0⟩])
(.seq (.block 0 (.loop (.seq (.seq (.reg [⟨(some 3),(.q (.mv (.t 0))),none,0⟩,
⟨(some 4),(.q (.lenSl (.t 3))),none,0⟩,
⟨(some 5),(.q (.bin .gtr (.p .int) (.t 4) (.c (.int .i64 (.ofNat 0))))),none,0⟩,
⟨(some 6),(.q (.mv (.t 5))),none,0⟩,
⟨(some 7),(.q (.mv (.t 0))),(some (6,true)),0⟩,
⟨(some 8),(.q (.mv (.t 0))),(some (6,true)),0⟩,
⟨(some 9),(.q (.lenSl (.t 8))),(some (6,true)),0⟩,
⟨(some 10),(.q (.bin .sub (.p .int) (.t 9) (.c (.int .i64 (.ofNat 1))))),(some (6,true)),0⟩,
⟨(some 11),(.q (.iaddr (.slice 1) (.t 7) (.t 10))),(some (6,true)),0⟩,
⟨(some 12),(.q (.ld false 1 (.t 11))),(some (6,true)),0⟩,
⟨(some 13),(.q (.bin .eql (.p .int) (.t 12) (.c (.int .u32 (.ofNat 0))))),(some (6,true)),0⟩,
⟨(some 14),(.q (.pick (.t 6) (.t 13) (.c (.bool false)))),none,0⟩])
(.cond (.t 14) .skip (.exit 0)))
(.block 1 (.reg [⟨(some 15),(.q (.mv (.t 0))),none,0⟩,
⟨(some 16),(.q (.mv (.t 0))),none,0⟩,
⟨(some 17),(.q (.lenSl (.t 16))),none,0⟩,
⟨(some 18),(.q (.bin .sub (.p .int) (.t 17) (.c (.int .i64 (.ofNat 1))))),none,0⟩,
⟨(some 19),(.q (.slc (.slice 1) (.t 15) none (some (.t 18)) none)),none,0⟩,
⟨(some 0),(.q (.mv (.t 19))),none,0⟩])))))
(.seq (.reg [⟨(some 20),(.q (.mv (.t 0))),none,0⟩,
⟨(some 2),(.q (.mv (.t 20))),none,0⟩])
.ret)))⟩
theorem row215 : Row Tryz.prog (215, a215) := ⟨Tryz.f215, Tryz.func215, by kernel_rfl⟩
noncomputable def a216 : AFn :=
⟨41,[(.t 4)],(.seq (.reg [⟨(some 4),(.q (.mv (.c (.int .i64 (.ofNat 0))))),none,0⟩])
(.seq (.seq (.reg [⟨(some 6),(.q (.mv (.t 0))),none,0⟩,
⟨(some 7),(.q (.lenSl (.t 6))),none,0⟩,
⟨(some 8),(.q (.mv (.t 1))),none,0⟩,
⟨(some 9),(.q (.lenSl (.t 8))),none,0⟩,
⟨(some 10),(.q (.bin .neq (.p .int) (.t 7) (.t 9))),none,0⟩])
(.cond (.t 10) (.seq (.seq (.reg [⟨(some 11),(.q (.mv (.t 0))),none,0⟩,
⟨(some 12),(.q (.lenSl (.t 11))),none,0⟩,
⟨(some 13),(.q (.mv (.t 1))),none,0⟩,
⟨(some 14),(.q (.lenSl (.t 13))),none,0⟩,
⟨(some 15),(.q (.bin .lss (.p .int) (.t 12) (.t 14))),none,0⟩])
(.cond (.t 15) (.seq (.reg [⟨(some 4),(.q (.mv (.c (.int .i64 (.negSucc 0))))),none,0⟩])
.ret) .skip))
(.seq (.reg [⟨(some 4),(.q (.mv (.c (.int .i64 (.ofNat 1))))),none,0⟩])
.ret)) .skip))
(.seq (.seq (.reg [⟨(some 16),(.q (.mv (.t 0))),none,0⟩,
⟨(some 17),(.q (.lenSl (.t 16))),none,0⟩,
⟨(some 18),(.q (.bin .sub (.p .int) (.t 17) (.c (.int .i64 (.ofNat 1))))),none,0⟩,
⟨(some 5),(.q (.mv (.t 18))),none,0⟩])
(.block 0 (.loop (.seq (.seq (.reg [⟨(some 19),(.q (.mv (.t 5))),none,0⟩,
⟨(some 20),(.q (.bin .geq (.p .int) (.t 19) (.c (.int .i64 (.ofNat 0))))),none,0⟩])
(.cond (.t 20) .skip (.exit 0)))
(.seq (.block 1 (.seq (.seq (.drw [⟨(some 23),(.q (.mv (.t 0))),none,0⟩,
⟨(some 24),(.q (.mv (.t 5))),none,0⟩,
⟨(some 25),(.q (.iaddr (.slice 1) (.t 23) (.t 24))),none,3⟩,
⟨(some 26),(.q (.ld false 1 (.t 25))),none,7⟩,
⟨(some 27),(.q (.mv (.t 1))),none,0⟩,
⟨(some 28),(.q (.mv (.t 5))),none,0⟩,
⟨(some 29),(.q (.iaddr (.slice 1) (.t 27) (.t 28))),none,48⟩,
⟨(some 30),(.q (.ld false 1 (.t 29))),none,112⟩,
⟨(some 31),(.q (.bin .lss (.p .int) (.t 26) (.t 30))),none,255⟩])
(.cond (.t 31) (.seq (.reg [⟨(some 4),(.q (.mv (.c (.int .i64 (.negSucc 0))))),none,0⟩])
.ret) .skip))
(.seq (.drw [⟨(some 32),(.q (.mv (.t 0))),none,0⟩,
⟨(some 33),(.q (.mv (.t 5))),none,0⟩,
⟨(some 34),(.q (.iaddr (.slice 1) (.t 32) (.t 33))),none,3⟩,
⟨(some 35),(.q (.ld false 1 (.t 34))),none,7⟩,
⟨(some 36),(.q (.mv (.t 1))),none,0⟩,
⟨(some 37),(.q (.mv (.t 5))),none,0⟩,
⟨(some 38),(.q (.iaddr (.slice 1) (.t 36) (.t 37))),none,48⟩,
⟨(some 39),(.q (.ld false 1 (.t 38))),none,112⟩,
⟨(some 40),(.q (.bin .gtr (.p .int) (.t 35) (.t 39))),none,255⟩])
(.cond (.t 40) (.seq (.reg [⟨(some 4),(.q (.mv (.c (.int .i64 (.ofNat 1))))),none,0⟩])
.ret) .skip))))
(.reg [⟨(some 21),(.q (.mv (.t 5))),none,0⟩,
⟨(some 22),(.q (.bin .sub (.p .int) (.t 21) (.c (.int .i64 (.ofNat 1))))),none,0⟩,
⟨(some 5),(.q (.mv (.t 22))),none,0⟩]))))))
(.seq (.reg [⟨(some 4),(.q (.mv (.c (.int .i64 (.ofNat 0))))),none,0⟩])
.ret))))⟩
theorem row216 : Row Tryz.prog (216, a216) := ⟨Tryz.f216, Tryz.func216, by kernel_rfl⟩
noncomputable def a217 : AFn :=
⟨6,[(.t 2)],(.seq (.reg [⟨(some 2),(.q (.mv (.c .nilsl))),none,0⟩])
(.seq (.reg [⟨(some 3),(.q (.mv (.t 0))),none,0⟩,
⟨(some 4),(.a (.bslice 149 1 1 [(.int .u32 (.ofNat 0))] [(0,(.t 3))])),none,0⟩,
⟨(some 5),(.x (.call (.c (.fn 219 [] [])) [(.t 4)])),none,0⟩,
⟨(some 2),(.q (.mv (.t 5))),none,0⟩])
.ret))⟩
theorem row217 : Row Tryz.prog (217, a217) := ⟨Tryz.f217, Tryz.func217, by kernel_rfl⟩
noncomputable def a218 : AFn :=
⟨68,[(.t 4)],(.seq (.reg [⟨(some 4),(.q (.mv (.c .nilsl))),none,0⟩])
(.seq (.reg [⟨(some 9),(.q (.mv (.t 0))),none,0⟩,
⟨(some 10),(.q (.lenSl (.t 9))),none,0⟩,
⟨(some 11),(.q (.mv (.t 1))),none,0⟩,
⟨(some 12),(.q (.lenSl (.t 11))),none,0⟩,
⟨(some 13),(.q (.bin .add (.p .int) (.t 10) (.t 12))),none,0⟩,
⟨(some 14),(.a (.mkSlice 149 1 4 [(.int .u32 (.ofNat 0))] (.t 13) (.t 13))),none,0⟩,
⟨(some 5),(.q (.mv (.t 14))),none,0⟩])
(.seq (.seq (.reg [⟨(some 6),(.q (.mv (.c (.int .i64 (.ofNat 0))))),none,0⟩])
(.block 0 (.loop (.seq (.seq (.reg [⟨(some 15),(.q (.mv (.t 6))),none,0⟩,
⟨(some 16),(.q (.mv (.t 0))),none,0⟩,
⟨(some 17),(.q (.lenSl (.t 16))),none,0⟩,
⟨(some 18),(.q (.bin .lss (.p .int) (.t 15) (.t 17))),none,0⟩])
(.cond (.t 18) .skip (.exit 0)))
(.seq (.block 1 (.seq (.reg [⟨(some 7),(.q (.mv (.c (.int .u64 (.ofNat 0))))),none,0⟩])
(.seq (.seq (.reg [⟨(some 8),(.q (.mv (.c (.int .i64 (.ofNat 0))))),none,0⟩])
(.block 2 (.loop (.seq (.seq (.reg [⟨(some 21),(.q (.mv (.t 8))),none,0⟩,
⟨(some 22),(.q (.mv (.t 1))),none,0⟩,
⟨(some 23),(.q (.lenSl (.t 22))),none,0⟩,
⟨(some 24),(.q (.bin .lss (.p .int) (.t 21) (.t 23))),none,0⟩])
(.cond (.t 24) .skip (.exit 2)))
(.seq (.block 3 (.seq (.drw [⟨(some 27),(.q (.mv (.t 7))),none,0⟩,
⟨(some 28),(.q (.mv (.t 5))),none,0⟩,
⟨(some 29),(.q (.mv (.t 6))),none,0⟩,
⟨(some 30),(.q (.mv (.t 8))),none,0⟩,
⟨(some 31),(.q (.bin .add (.p .int) (.t 29) (.t 30))),none,12⟩,
⟨(some 32),(.q (.iaddr (.slice 1) (.t 28) (.t 31))),none,30⟩,
⟨(some 33),(.q (.ld false 1 (.t 32))),none,62⟩,
⟨(some 34),(.q (.conv (.int .u64) (.t 33))),none,126⟩,
⟨(some 35),(.q (.bin .add (.p .int) (.t 27) (.t 34))),none,255⟩,
⟨(some 36),(.q (.mv (.t 0))),none,0⟩,
⟨(some 37),(.q (.mv (.t 6))),none,0⟩,
⟨(some 38),(.q (.iaddr (.slice 1) (.t 36) (.t 37))),none,1536⟩,
⟨(some 39),(.q (.ld false 1 (.t 38))),none,3584⟩,
⟨(some 40),(.q (.conv (.int .u64) (.t 39))),none,7680⟩,
⟨(some 41),(.q (.mv (.t 1))),none,0⟩,
⟨(some 42),(.q (.mv (.t 8))),none,0⟩,
⟨(some 43),(.q (.iaddr (.slice 1) (.t 41) (.t 42))),none,49152⟩,
⟨(some 44),(.q (.ld false 1 (.t 43))),none,114688⟩,
⟨(some 45),(.q (.conv (.int .u64) (.t 44))),none,245760⟩,
⟨(some 46),(.q (.bin .mul (.p .int) (.t 40) (.t 45))),none,523776⟩,
⟨(some 47),(.q (.bin .add (.p .int) (.t 35) (.t 46))),none,1048575⟩,
⟨(some 7),(.q (.mv (.t 47))),none,2097151⟩])
(.seq (.reg [⟨(some 48),(.q (.mv (.t 5))),none,0⟩,
⟨(some 49),(.q (.mv (.t 6))),none,0⟩,
⟨(some 50),(.q (.mv (.t 8))),none,0⟩,
⟨(some 51),(.q (.bin .add (.p .int) (.t 49) (.t 50))),none,0⟩,
⟨(some 52),(.q (.mv (.t 7))),none,0⟩,
⟨(some 53),(.q (.bin .rem (.p .int) (.t 52) (.c (.int .u64 (.ofNat 1000000000))))),none,0⟩,
⟨(some 54),(.q (.conv (.int .u32) (.t 53))),none,0⟩,
⟨(some 55),(.q (.iaddr (.slice 1) (.t 48) (.t 51))),none,0⟩,
⟨none,(.x (.st 1 (.t 55) (.t 54))),none,0⟩])
(.reg [⟨(some 56),(.q (.mv (.t 7))),none,0⟩,
⟨(some 57),(.q (.bin .quo (.p .int) (.t 56) (.c (.int .u64 (.ofNat 1000000000))))),none,0⟩,
⟨(some 7),(.q (.mv (.t 57))),none,0⟩]))))
(.reg [⟨(some 25),(.q (.mv (.t 8))),none,0⟩,
⟨(some 26),(.q (.bin .add (.p .int) (.t 25) (.c (.int .i64 (.ofNat 1))))),none,0⟩,
⟨(some 8),(.q (.mv (.t 26))),none,0⟩]))))))
(.reg [⟨(some 58),(.q (.mv (.t 5))),none,0⟩,
⟨(some 59),(.q (.mv (.t 6))),none,0⟩,
⟨(some 60),(.q (.mv (.t 1))),none,0⟩,
⟨(some 61),(.q (.lenSl (.t 60))),none,0⟩,
⟨(some 62),(.q (.bin .add (.p .int) (.t 59) (.t 61))),none,0⟩,
⟨(some 63),(.q (.mv (.t 7))),none,0⟩,
⟨(some 64),(.q (.conv (.int .u32) (.t 63))),none,0⟩,
⟨(some 65),(.q (.iaddr (.slice 1) (.t 58) (.t 62))),none,0⟩,
⟨none,(.x (.st 1 (.t 65) (.t 64))),none,0⟩]))))
(.reg [⟨(some 19),(.q (.mv (.t 6))),none,0⟩,
⟨(some 20),(.q (.bin .add (.p .int) (.t 19) (.c (.int .i64 (.ofNat 1))))),none,0⟩,
⟨(some 6),(.q (.mv (.t 20))),none,0⟩]))))))
(.seq (.reg [⟨(some 66),(.q (.mv (.t 5))),none,0⟩,
⟨(some 67),(.x (.call (.c (.fn 219 [] [])) [(.t 66)])),none,0⟩,
⟨(some 4),(.q (.mv (.t 67))),none,0⟩])
.ret))))⟩
theorem row218 : Row Tryz.prog (218, a218) := ⟨Tryz.f218, Tryz.func218, by kernel_rfl⟩
noncomputable def a219 : AFn :=
⟨21,[(.t 2)],(.seq (.reg [⟨(some 2),(.q (.mv (.c .nilsl))),none,0⟩])
(.seq (.block 0 (.loop (.seq (.seq (.reg [⟨(some 3),(.q (.mv (.t 0))),none,0⟩,
⟨(some 4),(.q (.lenSl (.t 3))),none,0⟩,
⟨(some 5),(.q (.bin .gtr (.p .int) (.t 4) (.c (.int .i64 (.ofNat 0))))),none,0⟩,
⟨(some 6),(.q (.mv (.t 5))),none,0⟩,
⟨(some 7),(.q (.mv (.t 0))),(some (6,true)),0⟩,
⟨(some 8),(.q (.mv (.t 0))),(some (6,true)),0⟩,
⟨(some 9),(.q (.lenSl (.t 8))),(some (6,true)),0⟩,
⟨(some 10),(.q (.bin .sub (.p .int) (.t 9) (.c (.int .i64 (.ofNat 1))))),(some (6,true)),0⟩,
⟨(some 11),(.q (.iaddr (.slice 1) (.t 7) (.t 10))),(some (6,true)),0⟩,
⟨(some 12),(.q (.ld false 1 (.t 11))),(some (6,true)),0⟩,
⟨(some 13),(.q (.bin .eql (.p .int) (.t 12) (.c (.int .u32 (.ofNat 0))))),(some (6,true)),0⟩,
⟨(some 14),(.q (.pick (.t 6) (.t 13) (.c (.bool false)))),none,0⟩])
(.cond (.t 14) .skip (.exit 0)))
(.block 1 (.reg [⟨(some 15),(.q (.mv (.t 0))),none,0⟩,
⟨(some 16),(.q (.mv (.t 0))),none,0⟩,
⟨(some 17),(.q (.lenSl (.t 16))),none,0⟩,
⟨(some 18),(.q (.bin .sub (.p .int) (.t 17) (.c (.int .i64 (.ofNat 1))))),none,0⟩,
⟨(some 19),(.q (.slc (.slice 1) (.t 15) none (some (.t 18)) none)),none,0⟩,
⟨(some 0),(.q (.mv (.t 19))),none,0⟩])))))
(.seq (.reg [⟨(some 20),(.q (.mv (.t 0))),none,0⟩,
⟨(some 2),(.q (.mv (.t 20))),none,0⟩])
.ret)))⟩
theorem row219 : Row Tryz.prog (219, a219) := ⟨Tryz.f219, Tryz.func219, by kernel_rfl⟩
noncomputable def a220 : AFn :=
⟨44,[(.t 4)],(.seq (.reg [⟨(some 4),(.q (.mv (.c .nilsl))),none,0⟩])
(.seq (.reg [⟨(some 5),(.q (.mv (.c .nilsl))),none,0⟩])
(.seq (.reg [⟨(some 6),(.q (.mv (.c (.int .i64 (.ofNat 0))))),none,0⟩])
(.seq (.seq (.reg [⟨(some 7),(.q (.mv (.c (.int .i64 (.ofNat 0))))),none,0⟩])
(.block 0 (.loop (.seq (.seq (.reg [⟨(some 9),(.q (.mv (.t 7))),none,0⟩,
⟨(some 10),(.q (.mv (.t 0))),none,0⟩,
⟨(some 11),(.q (.lenSl (.t 10))),none,0⟩,
⟨(some 12),(.q (.bin .lss (.p .int) (.t 9) (.t 11))),none,0⟩])
(.cond (.t 12) .skip (.exit 0)))
(.seq (.block 1 (.seq (.reg [⟨(some 15),(.q (.mv (.t 0))),none,0⟩,
⟨(some 16),(.q (.mv (.t 7))),none,0⟩,
⟨(some 17),(.q (.iaddr (.slice 1) (.t 15) (.t 16))),none,0⟩,
⟨(some 18),(.q (.ld false 1 (.t 17))),none,0⟩,
⟨(some 19),(.q (.conv (.int .i64) (.t 18))),none,0⟩,
⟨(some 20),(.q (.mv (.t 6))),none,0⟩,
⟨(some 21),(.q (.bin .sub (.p .int) (.t 19) (.t 20))),none,0⟩,
⟨(some 8),(.q (.mv (.t 21))),none,0⟩])
(.seq (.seq (.reg [⟨(some 22),(.q (.mv (.t 7))),none,0⟩,
⟨(some 23),(.q (.mv (.t 1))),none,0⟩,
⟨(some 24),(.q (.lenSl (.t 23))),none,0⟩,
⟨(some 25),(.q (.bin .lss (.p .int) (.t 22) (.t 24))),none,0⟩])
(.cond (.t 25) (.reg [⟨(some 26),(.q (.mv (.t 8))),none,0⟩,
⟨(some 27),(.q (.mv (.t 1))),none,0⟩,
⟨(some 28),(.q (.mv (.t 7))),none,0⟩,
⟨(some 29),(.q (.iaddr (.slice 1) (.t 27) (.t 28))),none,0⟩,
⟨(some 30),(.q (.ld false 1 (.t 29))),none,0⟩,
⟨(some 31),(.q (.conv (.int .i64) (.t 30))),none,0⟩,
⟨(some 32),(.q (.bin .sub (.p .int) (.t 26) (.t 31))),none,0⟩,
⟨(some 8),(.q (.mv (.t 32))),none,0⟩]) .skip))
(.seq (.reg [⟨(some 6),(.q (.mv (.c (.int .i64 (.ofNat 0))))),none,0⟩])
(.seq (.seq (.reg [⟨(some 33),(.q (.mv (.t 8))),none,0⟩,
⟨(some 34),(.q (.bin .lss (.p .int) (.t 33) (.c (.int .i64 (.ofNat 0))))),none,0⟩])
(.cond (.t 34) (.reg [⟨(some 35),(.q (.mv (.t 8))),none,0⟩,
⟨(some 36),(.q (.bin .add (.p .int) (.t 35) (.c (.int .i64 (.ofNat 1000000000))))),none,0⟩,
⟨(some 8),(.q (.mv (.t 36))),none,0⟩,
⟨(some 6),(.q (.mv (.c (.int .i64 (.ofNat 1))))),none,0⟩]) .skip))
(.reg [⟨(some 37),(.q (.mv (.t 5))),none,0⟩,
⟨(some 38),(.q (.mv (.t 8))),none,0⟩,
⟨(some 39),(.q (.conv (.int .u32) (.t 38))),none,0⟩,
⟨(some 40),(.a (.bslice 149 1 1 [(.int .u32 (.ofNat 0))] [(0,(.t 39))])),none,0⟩,
⟨(some 41),(.x (.app 149 1 4 (.t 37) (.t 40))),none,0⟩,
⟨(some 5),(.q (.mv (.t 41))),none,0⟩]))))))
(.reg [⟨(some 13),(.q (.mv (.t 7))),none,0⟩,
⟨(some 14),(.q (.bin .add (.p .int) (.t 13) (.c (.int .i64 (.ofNat 1))))),none,0⟩,
⟨(some 7),(.q (.mv (.t 14))),none,0⟩]))))))
(.seq (.reg [⟨(some 42),(.q (.mv (.t 5))),none,0⟩,
⟨(some 43),(.x (.call (.c (.fn 219 [] [])) [(.t 42)])),none,0⟩,
⟨(some 4),(.q (.mv (.t 43))),none,0⟩])
.ret)))))⟩
theorem row220 : Row Tryz.prog (220, a220) := ⟨Tryz.f220, Tryz.func220, by kernel_rfl⟩
noncomputable def a221 : AFn :=
⟨14,[(.t 2)],(.seq (.reg [⟨(some 2),(.q (.mv (.c (.int .i64 (.ofNat 0))))),none,0⟩])
(.seq (.seq (.reg [⟨(some 3),(.q (.mv (.t 0))),none,0⟩,
⟨(some 4),(.q (.bin .eql (.p .int) (.t 3) (.c (.int .u64 (.ofNat 0))))),none,0⟩])
(.cond (.t 4) (.seq (.reg [⟨(some 2),(.q (.mv (.c (.int .i64 (.ofNat 64))))),none,0⟩])
.ret) .skip))
(.seq (.reg [⟨(some 5),(.q (.mv (.t 0))),none,0⟩,
⟨(some 6),(.q (.mv (.t 0))),none,0⟩,
⟨(some 7),(.q (.un .neg (.t 6))),none,0⟩,
⟨(some 8),(.q (.bin .and (.p .int) (.t 5) (.t 7))),none,0⟩,
⟨(some 9),(.q (.bin .mul (.p .int) (.t 8) (.c (.int .u64 (.ofNat 285870213051353865))))),none,0⟩,
⟨(some 10),(.q (.bin .shr (.p .int) (.t 9) (.c (.int .u64 (.ofNat 58))))),none,0⟩,
⟨(some 11),(.q (.iaddr (.arr 64 1) (.c (.ptr 0 0)) (.t 10))),none,0⟩,
⟨(some 12),(.q (.ld false 1 (.t 11))),none,0⟩,
⟨(some 13),(.q (.conv (.int .i64) (.t 12))),none,0⟩,
⟨(some 2),(.q (.mv (.t 13))),none,0⟩])
.ret)))⟩
theorem row221 : Row Tryz.prog (221, a221) := ⟨Tryz.f221, Tryz.func221, by kernel_rfl⟩
noncomputable def a222 : AFn :=
⟨41,[(.t 4)],(.seq (.reg [⟨(some 4),(.q (.mv (.c (.int .i64 (.ofNat 0))))),none,0⟩])
(.seq (.seq (.reg [⟨(some 6),(.q (.mv (.t 0))),none,0⟩,
⟨(some 7),(.q (.lenSl (.t 6))),none,0⟩,
⟨(some 8),(.q (.mv (.t 1))),none,0⟩,
⟨(some 9),(.q (.lenSl (.t 8))),none,0⟩,
⟨(some 10),(.q (.bin .neq (.p .int) (.t 7) (.t 9))),none,0⟩])
(.cond (.t 10) (.seq (.seq (.reg [⟨(some 11),(.q (.mv (.t 0))),none,0⟩,
⟨(some 12),(.q (.lenSl (.t 11))),none,0⟩,
⟨(some 13),(.q (.mv (.t 1))),none,0⟩,
⟨(some 14),(.q (.lenSl (.t 13))),none,0⟩,
⟨(some 15),(.q (.bin .lss (.p .int) (.t 12) (.t 14))),none,0⟩])
(.cond (.t 15) (.seq (.reg [⟨(some 4),(.q (.mv (.c (.int .i64 (.negSucc 0))))),none,0⟩])
.ret) .skip))
(.seq (.reg [⟨(some 4),(.q (.mv (.c (.int .i64 (.ofNat 1))))),none,0⟩])
.ret)) .skip))
(.seq (.seq (.reg [⟨(some 16),(.q (.mv (.t 0))),none,0⟩,
⟨(some 17),(.q (.lenSl (.t 16))),none,0⟩,
⟨(some 18),(.q (.bin .sub (.p .int) (.t 17) (.c (.int .i64 (.ofNat 1))))),none,0⟩,
⟨(some 5),(.q (.mv (.t 18))),none,0⟩])
(.block 0 (.loop (.seq (.seq (.reg [⟨(some 19),(.q (.mv (.t 5))),none,0⟩,
⟨(some 20),(.q (.bin .geq (.p .int) (.t 19) (.c (.int .i64 (.ofNat 0))))),none,0⟩])
(.cond (.t 20) .skip (.exit 0)))
(.seq (.block 1 (.seq (.seq (.drw [⟨(some 23),(.q (.mv (.t 0))),none,0⟩,
⟨(some 24),(.q (.mv (.t 5))),none,0⟩,
⟨(some 25),(.q (.iaddr (.slice 1) (.t 23) (.t 24))),none,3⟩,
⟨(some 26),(.q (.ld false 1 (.t 25))),none,7⟩,
⟨(some 27),(.q (.mv (.t 1))),none,0⟩,
⟨(some 28),(.q (.mv (.t 5))),none,0⟩,
⟨(some 29),(.q (.iaddr (.slice 1) (.t 27) (.t 28))),none,48⟩,
⟨(some 30),(.q (.ld false 1 (.t 29))),none,112⟩,
⟨(some 31),(.q (.bin .lss (.p .int) (.t 26) (.t 30))),none,255⟩])
(.cond (.t 31) (.seq (.reg [⟨(some 4),(.q (.mv (.c (.int .i64 (.negSucc 0))))),none,0⟩])
.ret) .skip))
(.seq (.drw [⟨(some 32),(.q (.mv (.t 0))),none,0⟩,
⟨(some 33),(.q (.mv (.t 5))),none,0⟩,
⟨(some 34),(.q (.iaddr (.slice 1) (.t 32) (.t 33))),none,3⟩,
⟨(some 35),(.q (.ld false 1 (.t 34))),none,7⟩,
⟨(some 36),(.q (.mv (.t 1))),none,0⟩,
⟨(some 37),(.q (.mv (.t 5))),none,0⟩,
⟨(some 38),(.q (.iaddr (.slice 1) (.t 36) (.t 37))),none,48⟩,
⟨(some 39),(.q (.ld false 1 (.t 38))),none,112⟩,
⟨(some 40),(.q (.bin .gtr (.p .int) (.t 35) (.t 39))),none,255⟩])
(.cond (.t 40) (.seq (.reg [⟨(some 4),(.q (.mv (.c (.int .i64 (.ofNat 1))))),none,0⟩])
.ret) .skip))))
(.reg [⟨(some 21),(.q (.mv (.t 5))),none,0⟩,
⟨(some 22),(.q (.bin .sub (.p .int) (.t 21) (.c (.int .i64 (.ofNat 1))))),none,0⟩,
⟨(some 5),(.q (.mv (.t 22))),none,0⟩]))))))
(.seq (.reg [⟨(some 4),(.q (.mv (.c (.int .i64 (.ofNat 0))))),none,0⟩])
.ret))))⟩
theorem row222 : Row Tryz.prog (222, a222) := ⟨Tryz.f222, Tryz.func222, by kernel_rfl⟩
noncomputable def a223 : AFn :=
⟨69,[(.t 4),(.t 5),(.t 6),(.t 7)],(.seq (.reg [⟨(some 4),(.q (.mv (.c (.int .i64 (.ofNat 0))))),none,0⟩,
⟨(some 5),(.q (.mv (.c (.int .i64 (.ofNat 0))))),none,0⟩,
⟨(some 6),(.q (.mv (.c (.int .i64 (.ofNat 0))))),none,0⟩,
⟨(some 7),(.q (.mv (.c (.int .i64 (.ofNat 0))))),none,0⟩])
(.seq (.reg [⟨(some 4),(.q (.mv (.c (.int .i64 (.ofNat 1))))),none,0⟩,
⟨(some 5),(.q (.mv (.c (.int .i64 (.ofNat 0))))),none,0⟩,
⟨(some 6),(.q (.mv (.c (.int .i64 (.ofNat 0))))),none,0⟩,
⟨(some 7),(.q (.mv (.c (.int .i64 (.ofNat 1))))),none,0⟩])
(.seq (.block 0 (.loop (.seq (.seq (.reg [⟨(some 11),(.q (.mv (.t 1))),none,0⟩,
⟨(some 12),(.q (.mv (.t 6))),none,0⟩,
⟨(some 13),(.q (.bin .add (.p .int) (.t 11) (.t 12))),none,0⟩,
⟨(some 14),(.q (.bin .neq (.p .int) (.t 13) (.c (.int .i64 (.ofNat 0))))),none,0⟩,
⟨(some 15),(.q (.mv (.t 14))),none,0⟩,
⟨(some 16),(.q (.mv (.t 1))),(some (15,true)),0⟩,
⟨(some 17),(.q (.mv (.t 7))),(some (15,true)),0⟩,
⟨(some 18),(.q (.bin .add (.p .int) (.t 16) (.t 17))),(some (15,true)),0⟩,
⟨(some 19),(.q (.bin .neq (.p .int) (.t 18) (.c (.int .i64 (.ofNat 0))))),(some (15,true)),0⟩,
⟨(some 20),(.q (.pick (.t 15) (.t 19) (.c (.bool false)))),none,0⟩])
(.cond (.t 20) .skip (.exit 0)))
(.block 1 (.seq (.reg [⟨(some 21),(.q (.mv (.t 0))),none,0⟩,
⟨(some 22),(.q (.mv (.t 4))),none,0⟩,
⟨(some 23),(.q (.bin .add (.p .int) (.t 21) (.t 22))),none,0⟩,
⟨(some 24),(.q (.mv (.t 1))),none,0⟩,
⟨(some 25),(.q (.mv (.t 6))),none,0⟩,
⟨(some 26),(.q (.bin .add (.p .int) (.t 24) (.t 25))),none,0⟩,
⟨(some 27),(.q (.bin .quo (.p .int) (.t 23) (.t 26))),none,0⟩,
⟨(some 8),(.q (.mv (.t 27))),none,0⟩])
(.seq (.seq (.reg [⟨(some 28),(.q (.mv (.t 8))),none,0⟩,
⟨(some 29),(.q (.mv (.t 0))),none,0⟩,
⟨(some 30),(.q (.mv (.t 5))),none,0⟩,
⟨(some 31),(.q (.bin .add (.p .int) (.t 29) (.t 30))),none,0⟩,
⟨(some 32),(.q (.mv (.t 1))),none,0⟩,
⟨(some 33),(.q (.mv (.t 7))),none,0⟩,
⟨(some 34),(.q (.bin .add (.p .int) (.t 32) (.t 33))),none,0⟩,
⟨(some 35),(.q (.bin .quo (.p .int) (.t 31) (.t 34))),none,0⟩,
⟨(some 36),(.q (.bin .neq (.p .int) (.t 28) (.t 35))),none,0⟩])
(.cond (.t 36) (.exit 0) .skip))
(.seq (.reg [⟨(some 37),(.q (.mv (.t 4))),none,0⟩,
⟨(some 38),(.q (.mv (.t 8))),none,0⟩,
⟨(some 39),(.q (.mv (.t 6))),none,0⟩,
⟨(some 40),(.q (.bin .mul (.p .int) (.t 38) (.t 39))),none,0⟩,
⟨(some 41),(.q (.bin .sub (.p .int) (.t 37) (.t 40))),none,0⟩,
⟨(some 42),(.q (.mv (.t 5))),none,0⟩,
⟨(some 43),(.q (.mv (.t 8))),none,0⟩,
⟨(some 44),(.q (.mv (.t 7))),none,0⟩,
⟨(some 45),(.q (.bin .mul (.p .int) (.t 43) (.t 44))),none,0⟩,
⟨(some 46),(.q (.bin .sub (.p .int) (.t 42) (.t 45))),none,0⟩,
⟨(some 9),(.q (.mv (.t 41))),none,0⟩,
⟨(some 10),(.q (.mv (.t 46))),none,0⟩])
(.seq (.seq (.reg [⟨(some 47),(.q (.mv (.t 9))),none,0⟩,
⟨(some 48),(.q (.mv (.t 9))),none,0⟩,
⟨(some 49),(.q (.un .neg (.t 48))),none,0⟩,
⟨(some 50),(.q (.mv (.t 10))),none,0⟩,
⟨(some 51),(.q (.mv (.t 10))),none,0⟩,
⟨(some 52),(.q (.un .neg (.t 51))),none,0⟩,
⟨(some 53),(.q (.minmax true [(.t 47),(.t 49),(.t 50),(.t 52)])),none,0⟩,
⟨(some 54),(.q (.bin .geq (.p .int) (.t 53) (.c (.int .i64 (.ofNat 1000000000))))),none,0⟩])
(.cond (.t 54) (.exit 0) .skip))
(.seq (.reg [⟨(some 55),(.q (.mv (.t 6))),none,0⟩,
⟨(some 56),(.q (.mv (.t 7))),none,0⟩,
⟨(some 57),(.q (.mv (.t 9))),none,0⟩,
⟨(some 58),(.q (.mv (.t 10))),none,0⟩,
⟨(some 4),(.q (.mv (.t 55))),none,0⟩,
⟨(some 5),(.q (.mv (.t 56))),none,0⟩,
⟨(some 6),(.q (.mv (.t 57))),none,0⟩,
⟨(some 7),(.q (.mv (.t 58))),none,0⟩])
(.reg [⟨(some 59),(.q (.mv (.t 1))),none,0⟩,
⟨(some 60),(.q (.mv (.t 0))),none,0⟩,
⟨(some 61),(.q (.mv (.t 8))),none,0⟩,
⟨(some 62),(.q (.mv (.t 1))),none,0⟩,
⟨(some 63),(.q (.bin .mul (.p .int) (.t 61) (.t 62))),none,0⟩,
⟨(some 64),(.q (.bin .sub (.p .int) (.t 60) (.t 63))),none,0⟩,
⟨(some 0),(.q (.mv (.t 59))),none,0⟩,
⟨(some 1),(.q (.mv (.t 64))),none,0⟩]))))))))))
(.seq (.reg [⟨(some 65),(.q (.mv (.t 4))),none,0⟩,
⟨(some 66),(.q (.mv (.t 5))),none,0⟩,
⟨(some 67),(.q (.mv (.t 6))),none,0⟩,
⟨(some 68),(.q (.mv (.t 7))),none,0⟩,
⟨(some 4),(.q (.mv (.t 65))),none,0⟩,
⟨(some 5),(.q (.mv (.t 66))),none,0⟩,
⟨(some 6),(.q (.mv (.t 67))),none,0⟩,
⟨(some 7),(.q (.mv (.t 68))),none,0⟩])
.ret))))⟩
theorem row223 : Row Tryz.prog (223, a223) := ⟨Tryz.f223, Tryz.func223, by kernel_rfl⟩
noncomputable def a224 : AFn :=
⟨30,[(.t 4),(.t 5)],(.seq (.reg [⟨(some 4),(.q (.mv (.c (.int .i64 (.ofNat 0))))),none,0⟩,
⟨(some 5),(.q (.mv (.c (.int .i64 (.ofNat 0))))),none,0⟩])
(.seq (.reg [⟨(some 9),(.q (.mv (.t 0))),none,0⟩,
⟨(some 10),(.q (.lenSl (.t 9))),none,0⟩,
⟨(some 6),(.a (.alloc 3 [(.int .i64 (.ofNat 0))])),none,0⟩,
⟨none,(.x (.st 1 (.t 6) (.t 10))),none,0⟩])
(.seq (.reg [⟨(some 7),(.a (.alloc 189 [(.int .u64 (.ofNat 0))])),none,0⟩,
⟨none,(.x (.st 1 (.t 7) (.c (.int .u64 (.ofNat 1))))),none,0⟩])
(.seq (.block 0 (.loop (.seq (.seq (.drw [⟨(some 11),(.q (.mv (.t 0))),none,0⟩,
⟨(some 12),(.q (.ld false 1 (.t 6))),none,0⟩,
⟨(some 13),(.q (.bin .sub (.p .int) (.t 12) (.c (.int .i64 (.ofNat 1))))),none,2⟩,
⟨(some 14),(.q (.iaddr (.slice 1) (.t 11) (.t 13))),none,7⟩,
⟨(some 15),(.q (.ld false 1 (.t 14))),none,15⟩,
⟨(some 16),(.q (.conv (.int .u64) (.t 15))),none,31⟩,
⟨(some 17),(.q (.ld false 1 (.t 7))),none,0⟩,
⟨(some 18),(.q (.bin .mul (.p .int) (.t 16) (.t 17))),none,127⟩,
⟨(some 19),(.q (.bin .mul (.p .int) (.t 18) (.c (.int .u64 (.ofNat 10))))),none,255⟩,
⟨(some 20),(.q (.bin .lss (.p .int) (.t 19) (.c (.int .u64 (.ofNat 1000000000))))),none,511⟩])
(.cond (.t 20) .skip (.exit 0)))
(.block 1 (.reg [⟨(some 21),(.q (.ld false 1 (.t 7))),none,0⟩,
⟨(some 22),(.q (.bin .mul (.p .int) (.t 21) (.c (.int .u64 (.ofNat 10))))),none,0⟩,
⟨none,(.x (.st 1 (.t 7) (.t 22))),none,0⟩])))))
(.seq (.reg [⟨(some 23),(.q (.mkFunc 253 [] [(.t 6),(.t 7)])),none,0⟩,
⟨(some 8),(.q (.mv (.t 23))),none,0⟩])
(.seq (.reg [⟨(some 24),(.q (.mv (.t 8))),none,0⟩,
⟨(some 25),(.q (.mv (.t 0))),none,0⟩,
⟨(some 26),(.x (.call (.t 24) [(.t 25)])),none,0⟩,
⟨(some 27),(.q (.mv (.t 8))),none,0⟩,
⟨(some 28),(.q (.mv (.t 1))),none,0⟩,
⟨(some 29),(.x (.call (.t 27) [(.t 28)])),none,0⟩,
⟨(some 4),(.q (.mv (.t 26))),none,0⟩,
⟨(some 5),(.q (.mv (.t 29))),none,0⟩])
.ret))))))⟩
theorem row224 : Row Tryz.prog (224, a224) := ⟨Tryz.f224, Tryz.func224, by kernel_rfl⟩
noncomputable def a225 : AFn :=
⟨93,[(.t 4),(.t 5)],(.seq (.reg [⟨(some 4),(.q (.mv (.c .nilsl))),none,0⟩,
⟨(some 5),(.q (.mv (.c .nilsl))),none,0⟩])
(.seq (.seq (.reg [⟨(some 13),(.q (.mv (.t 0))),none,0⟩,
⟨(some 14),(.q (.mv (.t 1))),none,0⟩,
⟨(some 15),(.x (.call (.c (.fn 222 [] [])) [(.t 13),(.t 14)])),none,0⟩,
⟨(some 16),(.q (.bin .lss (.p .int) (.t 15) (.c (.int .i64 (.ofNat 0))))),none,0⟩])
(.cond (.t 16) (.seq (.reg [⟨(some 17),(.q (.mv (.t 0))),none,0⟩,
⟨(some 18),(.x (.call (.c (.fn 176 [] [])) [(.t 17)])),none,0⟩,
⟨(some 4),(.q (.mv (.c .nilsl))),none,0⟩,
⟨(some 5),(.q (.mv (.t 18))),none,0⟩])
.ret) .skip))
(.seq (.seq (.reg [⟨(some 19),(.q (.mv (.t 1))),none,0⟩,
⟨(some 20),(.q (.lenSl (.t 19))),none,0⟩,
⟨(some 21),(.q (.bin .eql (.p .int) (.t 20) (.c (.int .i64 (.ofNat 1))))),none,0⟩])
(.cond (.t 21) (.seq (.reg [⟨(some 23),(.q (.mv (.t 0))),none,0⟩,
⟨(some 24),(.q (.mv (.t 1))),none,0⟩,
⟨(some 25),(.q (.iaddr (.slice 1) (.t 24) (.c (.int .i64 (.ofNat 0))))),none,0⟩,
⟨(some 26),(.q (.ld false 1 (.t 25))),none,0⟩,
⟨(some 27),(.x (.call (.c (.fn 255 [] [])) [(.t 23),(.t 26)])),none,0⟩,
⟨(some 22),(.q (.mv (.t 27))),none,0⟩,
⟨(some 28),(.q (.extract (.t 22) 0)),none,0⟩,
⟨(some 29),(.q (.extract (.t 22) 1)),none,0⟩,
⟨(some 6),(.q (.mv (.t 28))),none,0⟩,
⟨(some 7),(.q (.mv (.t 29))),none,0⟩])
(.seq (.reg [⟨(some 30),(.q (.mv (.t 6))),none,0⟩,
⟨(some 31),(.q (.mv (.t 7))),none,0⟩,
⟨(some 32),(.q (.conv (.int .u64) (.t 31))),none,0⟩,
⟨(some 33),(.x (.call (.c (.fn 131 [] [])) [(.t 32)])),none,0⟩,
⟨(some 4),(.q (.mv (.t 30))),none,0⟩,
⟨(some 5),(.q (.mv (.t 33))),none,0⟩])
.ret)) .skip))
(.seq (.reg [⟨(some 34),(.q (.mv (.t 1))),none,0⟩,
⟨(some 35),(.q (.lenSl (.t 34))),none,0⟩,
⟨(some 8),(.q (.mv (.t 35))),none,0⟩])
(.seq (.reg [⟨(some 36),(.q (.mv (.t 1))),none,0⟩,
⟨(some 37),(.q (.mv (.t 8))),none,0⟩,
⟨(some 38),(.q (.bin .sub (.p .int) (.t 37) (.c (.int .i64 (.ofNat 1))))),none,0⟩,
⟨(some 39),(.q (.iaddr (.slice 1) (.t 36) (.t 38))),none,0⟩,
⟨(some 40),(.q (.ld false 1 (.t 39))),none,0⟩,
⟨(some 41),(.q (.conv (.int .u64) (.t 40))),none,0⟩,
⟨(some 42),(.q (.bin .add (.p .int) (.t 41) (.c (.int .u64 (.ofNat 1))))),none,0⟩,
⟨(some 43),(.q (.bin .quo (.p .int) (.c (.int .u64 (.ofNat 1000000000))) (.t 42))),none,0⟩,
⟨(some 9),(.q (.mv (.t 43))),none,0⟩])
(.seq (.reg [⟨(some 44),(.q (.mv (.t 0))),none,0⟩,
⟨(some 45),(.q (.mv (.t 9))),none,0⟩,
⟨(some 46),(.q (.mv (.t 0))),none,0⟩,
⟨(some 47),(.q (.lenSl (.t 46))),none,0⟩,
⟨(some 48),(.q (.bin .add (.p .int) (.t 47) (.c (.int .i64 (.ofNat 1))))),none,0⟩,
⟨(some 49),(.x (.call (.c (.fn 256 [] [])) [(.t 44),(.t 45),(.t 48)])),none,0⟩,
⟨(some 10),(.q (.mv (.t 49))),none,0⟩])
(.seq (.reg [⟨(some 50),(.q (.mv (.t 1))),none,0⟩,
⟨(some 51),(.q (.mv (.t 9))),none,0⟩,
⟨(some 52),(.q (.mv (.t 8))),none,0⟩,
⟨(some 53),(.x (.call (.c (.fn 256 [] [])) [(.t 50),(.t 51),(.t 52)])),none,0⟩,
⟨(some 11),(.q (.mv (.t 53))),none,0⟩])
(.seq (.reg [⟨(some 54),(.q (.mv (.t 0))),none,0⟩,
⟨(some 55),(.q (.lenSl (.t 54))),none,0⟩,
⟨(some 56),(.q (.mv (.t 8))),none,0⟩,
⟨(some 57),(.q (.bin .sub (.p .int) (.t 55) (.t 56))),none,0⟩,
⟨(some 58),(.q (.bin .add (.p .int) (.t 57) (.c (.int .i64 (.ofNat 1))))),none,0⟩,
⟨(some 59),(.a (.mkSlice 149 1 4 [(.int .u32 (.ofNat 0))] (.t 58) (.t 58))),none,0⟩,
⟨(some 4),(.q (.mv (.t 59))),none,0⟩])
(.seq (.seq (.reg [⟨(some 60),(.q (.mv (.t 0))),none,0⟩,
⟨(some 61),(.q (.lenSl (.t 60))),none,0⟩,
⟨(some 62),(.q (.mv (.t 8))),none,0⟩,
⟨(some 63),(.q (.bin .sub (.p .int) (.t 61) (.t 62))),none,0⟩,
⟨(some 12),(.q (.mv (.t 63))),none,0⟩])
(.block 0 (.loop (.seq (.seq (.reg [⟨(some 64),(.q (.mv (.t 12))),none,0⟩,
⟨(some 65),(.q (.bin .geq (.p .int) (.t 64) (.c (.int .i64 (.ofNat 0))))),none,0⟩])
(.cond (.t 65) .skip (.exit 0)))
(.seq (.block 1 (.reg [⟨(some 68),(.q (.mv (.t 4))),none,0⟩,
⟨(some 69),(.q (.mv (.t 12))),none,0⟩,
⟨(some 70),(.q (.mv (.t 10))),none,0⟩,
⟨(some 71),(.q (.mv (.t 12))),none,0⟩,
⟨(some 72),(.q (.mv (.t 12))),none,0⟩,
⟨(some 73),(.q (.mv (.t 8))),none,0⟩,
⟨(some 74),(.q (.bin .add (.p .int) (.t 72) (.t 73))),none,0⟩,
⟨(some 75),(.q (.bin .add (.p .int) (.t 74) (.c (.int .i64 (.ofNat 1))))),none,0⟩,
⟨(some 76),(.q (.slc (.slice 1) (.t 70) (some (.t 71)) (some (.t 75)) none)),none,0⟩,
⟨(some 77),(.q (.mv (.t 11))),none,0⟩,
⟨(some 78),(.x (.call (.c (.fn 257 [] [])) [(.t 76),(.t 77)])),none,0⟩,
⟨(some 79),(.q (.iaddr (.slice 1) (.t 68) (.t 69))),none,0⟩,
⟨none,(.x (.st 1 (.t 79) (.t 78))),none,0⟩]))
(.reg [⟨(some 66),(.q (.mv (.t 12))),none,0⟩,
⟨(some 67),(.q (.bin .sub (.p .int) (.t 66) (.c (.int .i64 (.ofNat 1))))),none,0⟩,
⟨(some 12),(.q (.mv (.t 67))),none,0⟩]))))))
(.seq (.reg [⟨(some 81),(.q (.mv (.t 10))),none,0⟩,
⟨(some 82),(.q (.mv (.t 8))),none,0⟩,
⟨(some 83),(.q (.slc (.slice 1) (.t 81) none (some (.t 82)) none)),none,0⟩,
⟨(some 84),(.x (.call (.c (.fn 258 [] [])) [(.t 83)])),none,0⟩,
⟨(some 85),(.q (.mv (.t 9))),none,0⟩,
⟨(some 86),(.q (.conv (.int .u32) (.t 85))),none,0⟩,
⟨(some 87),(.x (.call (.c (.fn 255 [] [])) [(.t 84),(.t 86)])),none,0⟩,
⟨(some 80),(.q (.mv (.t 87))),none,0⟩,
⟨(some 88),(.q (.extract (.t 80) 0)),none,0⟩,
⟨(some 89),(.q (.extract (.t 80) 1)),none,0⟩,
⟨(some 5),(.q (.mv (.t 88))),none,0⟩])
(.seq (.reg [⟨(some 90),(.q (.mv (.t 4))),none,0⟩,
⟨(some 91),(.x (.call (.c (.fn 258 [] [])) [(.t 90)])),none,0⟩,
⟨(some 92),(.q (.mv (.t 5))),none,0⟩,
⟨(some 4),(.q (.mv (.t 91))),none,0⟩,
⟨(some 5),(.q (.mv (.t 92))),none,0⟩])
.ret)))))))))))⟩
theorem row225 : Row Tryz.prog (225, a225) := ⟨Tryz.f225, Tryz.func225, by kernel_rfl⟩
noncomputable def a226 : AFn :=
⟨63,[(.t 8)],(.seq (.reg [⟨(some 8),(.q (.mv (.c .nilsl))),none,0⟩])
(.seq (.reg [⟨(some 13),(.q (.mv (.t 0))),none,0⟩,
⟨(some 14),(.q (.lenSl (.t 13))),none,0⟩,
⟨(some 15),(.a (.mkSlice 149 1 4 [(.int .u32 (.ofNat 0))] (.t 14) (.t 14))),none,0⟩,
⟨(some 9),(.q (.mv (.t 15))),none,0⟩])
(.seq (.reg [⟨(some 10),(.q (.mv (.c (.int .i64 (.ofNat 0))))),none,0⟩])
(.seq (.seq (.reg [⟨(some 16),(.q (.mv (.t 0))),none,0⟩,
⟨(some 17),(.q (.lenSl (.t 16))),none,0⟩,
⟨(some 18),(.q (.mv (.c (.int .i64 (.ofNat 0))))),none,0⟩])
(.block 0 (.loop (.seq (.reg [⟨(some 19),(.q (.bin .lss (.p .int) (.t 18) (.t 17))),none,0⟩])
(.seq (.cond (.t 19) .skip (.exit 0))
(.seq (.block 1 (.seq (.reg [⟨(some 20),(.q (.mv (.t 18))),none,0⟩,
⟨(some 11),(.q (.mv (.t 20))),none,0⟩])
(.seq (.reg [⟨(some 21),(.q (.mv (.t 2))),none,0⟩,
⟨(some 22),(.q (.mv (.t 0))),none,0⟩,
⟨(some 23),(.q (.mv (.t 11))),none,0⟩,
⟨(some 24),(.q (.iaddr (.slice 1) (.t 22) (.t 23))),none,0⟩,
⟨(some 25),(.q (.ld false 1 (.t 24))),none,0⟩,
⟨(some 26),(.q (.conv (.int .i64) (.t 25))),none,0⟩,
⟨(some 27),(.q (.bin .mul (.p .int) (.t 21) (.t 26))),none,0⟩,
⟨(some 28),(.q (.mv (.t 10))),none,0⟩,
⟨(some 29),(.q (.bin .add (.p .int) (.t 27) (.t 28))),none,0⟩,
⟨(some 12),(.q (.mv (.t 29))),none,0⟩])
(.seq (.seq (.reg [⟨(some 30),(.q (.mv (.t 11))),none,0⟩,
⟨(some 31),(.q (.mv (.t 1))),none,0⟩,
⟨(some 32),(.q (.lenSl (.t 31))),none,0⟩,
⟨(some 33),(.q (.bin .lss (.p .int) (.t 30) (.t 32))),none,0⟩])
(.cond (.t 33) (.reg [⟨(some 34),(.q (.mv (.t 12))),none,0⟩,
⟨(some 35),(.q (.mv (.t 3))),none,0⟩,
⟨(some 36),(.q (.mv (.t 1))),none,0⟩,
⟨(some 37),(.q (.mv (.t 11))),none,0⟩,
⟨(some 38),(.q (.iaddr (.slice 1) (.t 36) (.t 37))),none,0⟩,
⟨(some 39),(.q (.ld false 1 (.t 38))),none,0⟩,
⟨(some 40),(.q (.conv (.int .i64) (.t 39))),none,0⟩,
⟨(some 41),(.q (.bin .mul (.p .int) (.t 35) (.t 40))),none,0⟩,
⟨(some 42),(.q (.bin .add (.p .int) (.t 34) (.t 41))),none,0⟩,
⟨(some 12),(.q (.mv (.t 42))),none,0⟩]) .skip))
(.seq (.reg [⟨(some 43),(.q (.mv (.t 12))),none,0⟩,
⟨(some 44),(.q (.bin .quo (.p .int) (.t 43) (.c (.int .i64 (.ofNat 1000000000))))),none,0⟩,
⟨(some 10),(.q (.mv (.t 44))),none,0⟩])
(.seq (.reg [⟨(some 45),(.q (.mv (.t 12))),none,0⟩,
⟨(some 46),(.q (.mv (.t 10))),none,0⟩,
⟨(some 47),(.q (.bin .mul (.p .int) (.t 46) (.c (.int .i64 (.ofNat 1000000000))))),none,0⟩,
⟨(some 48),(.q (.bin .sub (.p .int) (.t 45) (.t 47))),none,0⟩,
⟨(some 12),(.q (.mv (.t 48))),none,0⟩])
(.seq (.seq (.reg [⟨(some 49),(.q (.mv (.t 12))),none,0⟩,
⟨(some 50),(.q (.bin .lss (.p .int) (.t 49) (.c (.int .i64 (.ofNat 0))))),none,0⟩])
(.cond (.t 50) (.seq (.reg [⟨(some 51),(.q (.mv (.t 12))),none,0⟩,
⟨(some 52),(.q (.bin .add (.p .int) (.t 51) (.c (.int .i64 (.ofNat 1000000000))))),none,0⟩,
⟨(some 12),(.q (.mv (.t 52))),none,0⟩])
(.reg [⟨(some 53),(.q (.mv (.t 10))),none,0⟩,
⟨(some 54),(.q (.bin .sub (.p .int) (.t 53) (.c (.int .i64 (.ofNat 1))))),none,0⟩,
⟨(some 10),(.q (.mv (.t 54))),none,0⟩])) .skip))
(.reg [⟨(some 55),(.q (.mv (.t 9))),none,0⟩,
⟨(some 56),(.q (.mv (.t 11))),none,0⟩,
⟨(some 57),(.q (.mv (.t 12))),none,0⟩,
⟨(some 58),(.q (.conv (.int .u32) (.t 57))),none,0⟩,
⟨(some 59),(.q (.iaddr (.slice 1) (.t 55) (.t 56))),none,0⟩,
⟨none,(.x (.st 1 (.t 59) (.t 58))),none,0⟩]))))))))
(.reg [⟨(some 60),(.q (.bin .add (.p .int) (.t 18) (.c (.int .i64 (.ofNat 1))))),none,0⟩,
⟨(some 18),(.q (.mv (.t 60))),none,0⟩])))))))
(.seq (.reg [⟨(some 61),(.q (.mv (.t 9))),none,0⟩,
⟨(some 62),(.x (.call (.c (.fn 258 [] [])) [(.t 61)])),none,0⟩,
⟨(some 8),(.q (.mv (.t 62))),none,0⟩])
.ret)))))⟩
theorem row226 : Row Tryz.prog (226, a226) := ⟨Tryz.f226, Tryz.func226, by kernel_rfl⟩
end Go.Proofs.YtopemogpgppjlaaGreatDoor.normalNames
