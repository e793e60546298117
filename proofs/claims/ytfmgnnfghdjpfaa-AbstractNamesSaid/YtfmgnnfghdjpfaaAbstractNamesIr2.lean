/- The functions that AbstractNames reaches, as data of the evaluator (part 2), written by program; each is shown to be the compiler's result on the loaded function. -/
import Derived.Test.YtfmgnnfghdjpfaaProg
import Derived.Test.YtfmgnnfghdjpfaaEvSt
import Derived.KernelRfl
namespace Go.Proofs.Ytfmgnnfghdjpfaa.abstractNames
open Go.Ev
set_option maxRecDepth 100000
noncomputable def a81 : AFn :=
⟨66,[(.cell 4 true 2),(.t 5)],(.seq (.reg [⟨(some 4),(.a (.alloc 144 [.nilsl,.nilsl])),none,0⟩,
⟨(some 5),(.q (.mv (.c (.int .i64 (.ofNat 0))))),none,0⟩])
(.seq (.reg [⟨(some 14),(.q (.mv (.t 0))),none,0⟩,
⟨(some 15),(.q (.nilchk (.t 14))),none,0⟩,
⟨(some 16),(.q (.faddr 0 (.t 15))),none,0⟩,
⟨(some 17),(.q (.faddr 1 (.t 16))),none,0⟩,
⟨(some 18),(.q (.ld false 1 (.t 17))),none,0⟩,
⟨(some 19),(.q (.lenSl (.t 18))),none,0⟩,
⟨(some 6),(.q (.mv (.t 19))),none,0⟩])
(.seq (.seq (.reg [⟨(some 20),(.q (.mv (.t 1))),none,0⟩,
⟨(some 21),(.q (.lenSl (.t 20))),none,0⟩,
⟨(some 22),(.q (.mv (.t 6))),none,0⟩,
⟨(some 23),(.q (.bin .neq (.p .int) (.t 21) (.t 22))),none,0⟩])
(.cond (.t 23) (.seq (.reg [⟨(some 24),(.q (.build [.nilsl,.nilsl] [])),none,0⟩,
⟨none,(.x (.st 2 (.t 4) (.t 24))),none,0⟩,
⟨(some 5),(.q (.mv (.c (.int .i64 (.ofNat 10))))),none,0⟩])
.ret) .skip))
(.seq (.seq (.reg [⟨(some 25),(.q (.mv (.t 1))),none,0⟩,
⟨(some 26),(.q (.lenSl (.t 25))),none,0⟩,
⟨(some 27),(.q (.mv (.c (.int .i64 (.ofNat 0))))),none,0⟩])
(.block 0 (.loop (.seq (.reg [⟨(some 28),(.q (.bin .lss (.p .int) (.t 27) (.t 26))),none,0⟩])
(.seq (.cond (.t 28) .skip (.exit 0))
(.seq (.block 1 (.seq (.reg [⟨(some 29),(.q (.iaddr (.slice 1) (.t 25) (.t 27))),none,0⟩,
⟨(some 30),(.q (.ld false 1 (.t 29))),none,0⟩,
⟨(some 8),(.q (.mv (.t 30))),none,0⟩])
(.seq (.reg [⟨(some 31),(.q (.mv (.t 8))),none,0⟩,
⟨(some 32),(.q (.bin .lss (.p .int) (.t 31) (.c (.int .i64 (.ofNat 0))))),none,0⟩,
⟨(some 33),(.q (.mv (.t 32))),none,0⟩,
⟨(some 34),(.q (.mv (.t 8))),(some (33,false)),0⟩,
⟨(some 35),(.q (.mv (.t 6))),(some (33,false)),0⟩,
⟨(some 36),(.q (.bin .geq (.p .int) (.t 34) (.t 35))),(some (33,false)),0⟩,
⟨(some 37),(.q (.pick (.t 33) (.c (.bool true)) (.t 36))),none,0⟩])
(.cond (.t 37) (.seq (.reg [⟨(some 38),(.q (.build [.nilsl,.nilsl] [])),none,0⟩,
⟨none,(.x (.st 2 (.t 4) (.t 38))),none,0⟩,
⟨(some 5),(.q (.mv (.c (.int .i64 (.ofNat 2))))),none,0⟩])
.ret) .skip))))
(.reg [⟨(some 39),(.q (.bin .add (.p .int) (.t 27) (.c (.int .i64 (.ofNat 1))))),none,0⟩,
⟨(some 27),(.q (.mv (.t 39))),none,0⟩])))))))
(.seq (.reg [⟨(some 40),(.q (.mv (.t 6))),none,0⟩,
⟨(some 41),(.a (.mkSlice 4 1 1 [(.bool false)] (.t 40) (.t 40))),none,0⟩,
⟨(some 9),(.q (.mv (.t 41))),none,0⟩])
(.seq (.seq (.reg [⟨(some 42),(.q (.mv (.t 1))),none,0⟩,
⟨(some 43),(.q (.lenSl (.t 42))),none,0⟩,
⟨(some 44),(.q (.mv (.c (.int .i64 (.ofNat 0))))),none,0⟩])
(.block 2 (.loop (.seq (.reg [⟨(some 45),(.q (.bin .lss (.p .int) (.t 44) (.t 43))),none,0⟩])
(.seq (.cond (.t 45) .skip (.exit 2))
(.seq (.block 3 (.seq (.reg [⟨(some 46),(.q (.iaddr (.slice 1) (.t 42) (.t 44))),none,0⟩,
⟨(some 47),(.q (.ld false 1 (.t 46))),none,0⟩,
⟨(some 11),(.q (.mv (.t 47))),none,0⟩])
(.seq (.seq (.reg [⟨(some 48),(.q (.mv (.t 9))),none,0⟩,
⟨(some 49),(.q (.mv (.t 11))),none,0⟩,
⟨(some 50),(.q (.iaddr (.slice 1) (.t 48) (.t 49))),none,0⟩,
⟨(some 51),(.q (.ld false 1 (.t 50))),none,0⟩])
(.cond (.t 51) (.seq (.reg [⟨(some 52),(.q (.build [.nilsl,.nilsl] [])),none,0⟩,
⟨none,(.x (.st 2 (.t 4) (.t 52))),none,0⟩,
⟨(some 5),(.q (.mv (.c (.int .i64 (.ofNat 8))))),none,0⟩])
.ret) .skip))
(.reg [⟨(some 53),(.q (.mv (.t 9))),none,0⟩,
⟨(some 54),(.q (.mv (.t 11))),none,0⟩,
⟨(some 55),(.q (.iaddr (.slice 1) (.t 53) (.t 54))),none,0⟩,
⟨none,(.x (.st 1 (.t 55) (.c (.bool true)))),none,0⟩]))))
(.reg [⟨(some 56),(.q (.bin .add (.p .int) (.t 44) (.c (.int .i64 (.ofNat 1))))),none,0⟩,
⟨(some 44),(.q (.mv (.t 56))),none,0⟩])))))))
(.seq (.seq (.reg [⟨(some 58),(.q (.mv (.t 0))),none,0⟩,
⟨(some 59),(.q (.mv (.t 1))),none,0⟩,
⟨(some 60),(.x (.call (.c (.fn 92 [] [])) [(.t 58),(.t 59)])),none,0⟩,
⟨(some 57),(.q (.mv (.t 60))),none,0⟩,
⟨(some 61),(.q (.extract (.t 57) 0)),none,0⟩,
⟨(some 62),(.q (.extract (.t 57) 1)),none,0⟩,
⟨(some 12),(.a (.alloc 144 [.nilsl,.nilsl])),none,0⟩,
⟨none,(.x (.st 2 (.t 12) (.t 61))),none,0⟩,
⟨(some 13),(.q (.mv (.t 62))),none,0⟩])
(.seq (.reg [⟨(some 63),(.q (.mv (.t 13))),none,0⟩])
(.cond (.t 63) (.seq (.reg [⟨(some 64),(.q (.ld true 2 (.t 12))),none,0⟩,
⟨none,(.x (.st 2 (.t 4) (.t 64))),none,0⟩,
⟨(some 5),(.q (.mv (.c (.int .i64 (.ofNat 0))))),none,0⟩])
.ret) .skip)))
(.seq (.reg [⟨(some 65),(.q (.build [.nilsl,.nilsl] [])),none,0⟩,
⟨none,(.x (.st 2 (.t 4) (.t 65))),none,0⟩,
⟨(some 5),(.q (.mv (.c (.int .i64 (.ofNat 3))))),none,0⟩])
.ret))))))))⟩
theorem row81 : Row Try.prog (81, a81) := ⟨Try.f81, Try.func81, by kernel_rfl⟩
noncomputable def a88 : AFn :=
⟨26,[(.t 4)],(.seq (.reg [⟨(some 4),(.q (.mv (.c (.bool false)))),none,0⟩])
(.seq (.seq (.reg [⟨(some 6),(.q (.mv (.t 0))),none,0⟩,
⟨(some 7),(.q (.lenSl (.t 6))),none,0⟩,
⟨(some 8),(.q (.mv (.t 1))),none,0⟩,
⟨(some 9),(.q (.lenSl (.t 8))),none,0⟩,
⟨(some 10),(.q (.bin .neq (.p .int) (.t 7) (.t 9))),none,0⟩])
(.cond (.t 10) (.seq (.reg [⟨(some 4),(.q (.mv (.c (.bool false)))),none,0⟩])
.ret) .skip))
(.seq (.seq (.reg [⟨(some 11),(.q (.mv (.t 0))),none,0⟩,
⟨(some 12),(.q (.lenSl (.t 11))),none,0⟩,
⟨(some 13),(.q (.mv (.c (.int .i64 (.ofNat 0))))),none,0⟩])
(.block 0 (.loop (.seq (.reg [⟨(some 14),(.q (.bin .lss (.p .int) (.t 13) (.t 12))),none,0⟩])
(.seq (.cond (.t 14) .skip (.exit 0))
(.seq (.block 1 (.seq (.reg [⟨(some 15),(.q (.mv (.t 13))),none,0⟩,
⟨(some 5),(.q (.mv (.t 15))),none,0⟩])
(.seq (.drw [⟨(some 16),(.q (.mv (.t 0))),none,0⟩,
⟨(some 17),(.q (.mv (.t 5))),none,0⟩,
⟨(some 18),(.q (.iaddr (.slice 1) (.t 16) (.t 17))),none,3⟩,
⟨(some 19),(.q (.ld false 1 (.t 18))),none,7⟩,
⟨(some 20),(.q (.mv (.t 1))),none,0⟩,
⟨(some 21),(.q (.mv (.t 5))),none,0⟩,
⟨(some 22),(.q (.iaddr (.slice 1) (.t 20) (.t 21))),none,48⟩,
⟨(some 23),(.q (.ld false 1 (.t 22))),none,112⟩,
⟨(some 24),(.q (.bin .neq (.p .int) (.t 19) (.t 23))),none,255⟩])
(.cond (.t 24) (.seq (.reg [⟨(some 4),(.q (.mv (.c (.bool false)))),none,0⟩])
.ret) .skip))))
(.reg [⟨(some 25),(.q (.bin .add (.p .int) (.t 13) (.c (.int .i64 (.ofNat 1))))),none,0⟩,
⟨(some 13),(.q (.mv (.t 25))),none,0⟩])))))))
(.seq (.reg [⟨(some 4),(.q (.mv (.c (.bool true)))),none,0⟩])
.ret))))⟩
theorem row88 : Row Try.prog (88, a88) := ⟨Try.f88, Try.func88, by kernel_rfl⟩
noncomputable def a89 : AFn :=
⟨8,[(.t 2),(.t 3)],(.seq (.reg [⟨(some 1),(.a (.box 25 (.t 0))),none,0⟩,
⟨(some 2),(.q (.mv (.c .nilsl))),none,0⟩,
⟨(some 3),(.q (.mv (.c (.int .i64 (.ofNat 0))))),none,0⟩])
(.seq (.reg [⟨(some 4),(.q (.ld true 3 (.t 1))),none,0⟩,
⟨(some 5),(.x (.call (.c (.fn 97 [] [])) [(.t 4),(.c (.fn 98 [] []))])),none,0⟩,
⟨(some 6),(.q (.extract (.t 5) 0)),none,0⟩,
⟨(some 7),(.q (.extract (.t 5) 1)),none,0⟩,
⟨(some 2),(.q (.mv (.t 6))),none,0⟩,
⟨(some 3),(.q (.mv (.t 7))),none,0⟩])
.ret))⟩
theorem row89 : Row Try.prog (89, a89) := ⟨Try.f89, Try.func89, by kernel_rfl⟩
noncomputable def a90 : AFn :=
⟨23,[],(.seq (.reg [⟨(some 6),(.q (.mv (.t 0))),none,0⟩,
⟨(some 7),(.q (.mv (.t 1))),none,0⟩,
⟨(some 8),(.x (.call (.c (.fn 91 [] [])) [(.t 6),(.t 7)])),none,0⟩,
⟨(some 9),(.q (.mv (.t 0))),none,0⟩,
⟨(some 10),(.q (.mv (.t 2))),none,0⟩,
⟨(some 11),(.x (.call (.c (.fn 91 [] [])) [(.t 9),(.t 10)])),none,0⟩,
⟨(some 1),(.q (.mv (.t 8))),none,0⟩,
⟨(some 2),(.q (.mv (.t 11))),none,0⟩])
(.reg [⟨(some 12),(.q (.mv (.t 0))),none,0⟩,
⟨(some 13),(.q (.nilchk (.t 12))),none,0⟩,
⟨(some 14),(.q (.faddr 0 (.t 13))),none,0⟩,
⟨(some 15),(.q (.ld false 1 (.t 14))),none,0⟩,
⟨(some 16),(.q (.mv (.t 1))),none,0⟩,
⟨(some 17),(.q (.mv (.t 2))),none,0⟩,
⟨(some 18),(.q (.minmax true [(.t 16),(.t 17)])),none,0⟩,
⟨(some 19),(.q (.mv (.t 1))),none,0⟩,
⟨(some 20),(.q (.mv (.t 2))),none,0⟩,
⟨(some 21),(.q (.minmax false [(.t 19),(.t 20)])),none,0⟩,
⟨(some 22),(.q (.iaddr (.slice 1) (.t 15) (.t 18))),none,0⟩,
⟨none,(.x (.st 1 (.t 22) (.t 21))),none,0⟩]))⟩
theorem row90 : Row Try.prog (90, a90) := ⟨Try.f90, Try.func90, by kernel_rfl⟩
noncomputable def a91 : AFn :=
⟨41,[(.t 4)],(.seq (.reg [⟨(some 4),(.q (.mv (.c (.int .i64 (.ofNat 0))))),none,0⟩])
(.seq (.block 0 (.loop (.seq (.seq (.reg [⟨(some 5),(.q (.mv (.t 0))),none,0⟩,
⟨(some 6),(.q (.nilchk (.t 5))),none,0⟩,
⟨(some 7),(.q (.faddr 0 (.t 6))),none,0⟩,
⟨(some 8),(.q (.ld false 1 (.t 7))),none,0⟩,
⟨(some 9),(.q (.mv (.t 1))),none,0⟩,
⟨(some 10),(.q (.iaddr (.slice 1) (.t 8) (.t 9))),none,0⟩,
⟨(some 11),(.q (.ld false 1 (.t 10))),none,0⟩,
⟨(some 12),(.q (.mv (.t 1))),none,0⟩,
⟨(some 13),(.q (.bin .neq (.p .int) (.t 11) (.t 12))),none,0⟩])
(.cond (.t 13) .skip (.exit 0)))
(.block 1 (.seq (.drw [⟨(some 14),(.q (.mv (.t 0))),none,0⟩,
⟨(some 15),(.q (.nilchk (.t 14))),none,1⟩,
⟨(some 16),(.q (.faddr 0 (.t 15))),none,3⟩,
⟨(some 17),(.q (.ld false 1 (.t 16))),none,7⟩,
⟨(some 18),(.q (.mv (.t 1))),none,0⟩,
⟨(some 19),(.q (.mv (.t 0))),none,0⟩,
⟨(some 20),(.q (.nilchk (.t 19))),none,32⟩,
⟨(some 21),(.q (.faddr 0 (.t 20))),none,96⟩,
⟨(some 22),(.q (.ld false 1 (.t 21))),none,224⟩,
⟨(some 23),(.q (.mv (.t 0))),none,0⟩,
⟨(some 24),(.q (.nilchk (.t 23))),none,512⟩,
⟨(some 25),(.q (.faddr 0 (.t 24))),none,1536⟩,
⟨(some 26),(.q (.ld false 1 (.t 25))),none,3584⟩,
⟨(some 27),(.q (.mv (.t 1))),none,0⟩,
⟨(some 28),(.q (.iaddr (.slice 1) (.t 26) (.t 27))),none,15872⟩,
⟨(some 29),(.q (.ld false 1 (.t 28))),none,32256⟩,
⟨(some 30),(.q (.iaddr (.slice 1) (.t 22) (.t 29))),none,65504⟩,
⟨(some 31),(.q (.ld false 1 (.t 30))),none,131040⟩,
⟨(some 32),(.q (.iaddr (.slice 1) (.t 17) (.t 18))),none,262143⟩,
⟨none,(.x (.st 1 (.t 32) (.t 31))),none,524287⟩])
(.reg [⟨(some 33),(.q (.mv (.t 0))),none,0⟩,
⟨(some 34),(.q (.nilchk (.t 33))),none,0⟩,
⟨(some 35),(.q (.faddr 0 (.t 34))),none,0⟩,
⟨(some 36),(.q (.ld false 1 (.t 35))),none,0⟩,
⟨(some 37),(.q (.mv (.t 1))),none,0⟩,
⟨(some 38),(.q (.iaddr (.slice 1) (.t 36) (.t 37))),none,0⟩,
⟨(some 39),(.q (.ld false 1 (.t 38))),none,0⟩,
⟨(some 1),(.q (.mv (.t 39))),none,0⟩]))))))
(.seq (.reg [⟨(some 40),(.q (.mv (.t 1))),none,0⟩,
⟨(some 4),(.q (.mv (.t 40))),none,0⟩])
.ret)))⟩
theorem row91 : Row Try.prog (91, a91) := ⟨Try.f91, Try.func91, by kernel_rfl⟩
noncomputable def a92 : AFn :=
⟨64,[(.cell 4 true 2),(.t 5)],(.seq (.reg [⟨(some 2),(.a (.box 137 (.t 0))),none,0⟩,
⟨(some 3),(.a (.box 28 (.t 1))),none,0⟩,
⟨(some 4),(.a (.alloc 144 [.nilsl,.nilsl])),none,0⟩,
⟨(some 5),(.q (.mv (.c (.bool false)))),none,0⟩])
(.seq (.drw [⟨(some 11),(.q (.ld false 1 (.t 2))),none,0⟩,
⟨(some 12),(.q (.nilchk (.t 11))),none,1⟩,
⟨(some 13),(.q (.faddr 0 (.t 12))),none,3⟩,
⟨(some 14),(.q (.faddr 2 (.t 13))),none,7⟩,
⟨(some 15),(.q (.ld false 1 (.t 14))),none,15⟩,
⟨(some 16),(.q (.lenSl (.t 15))),none,31⟩,
⟨(some 17),(.x (.call (.c (.fn 99 [] [])) [(.t 16)])),none,63⟩,
⟨(some 18),(.q (.ld false 1 (.t 2))),none,0⟩,
⟨(some 19),(.q (.nilchk (.t 18))),none,128⟩,
⟨(some 20),(.q (.faddr 0 (.t 19))),none,384⟩,
⟨(some 21),(.q (.faddr 2 (.t 20))),none,896⟩,
⟨(some 22),(.q (.ld false 1 (.t 21))),none,1920⟩,
⟨(some 23),(.q (.lenSl (.t 22))),none,3968⟩,
⟨(some 24),(.a (.mkSlice 28 1 24 [.nilsl] (.t 23) (.t 23))),none,8064⟩,
⟨(some 25),(.q (.build [.nilsl,.nilsl] [(0,1,(.t 17)),(1,1,(.t 24))])),none,16383⟩,
⟨(some 6),(.a (.alloc 144 [.nilsl,.nilsl])),none,0⟩,
⟨none,(.x (.st 2 (.t 6) (.t 25))),none,65535⟩])
(.seq (.reg [⟨(some 26),(.q (.ld false 1 (.t 2))),none,0⟩,
⟨(some 27),(.q (.nilchk (.t 26))),none,0⟩,
⟨(some 28),(.q (.faddr 0 (.t 27))),none,0⟩,
⟨(some 29),(.q (.faddr 2 (.t 28))),none,0⟩,
⟨(some 30),(.q (.ld false 1 (.t 29))),none,0⟩,
⟨(some 31),(.q (.lenSl (.t 30))),none,0⟩,
⟨(some 32),(.x (.call (.c (.fn 99 [] [])) [(.t 31)])),none,0⟩,
⟨(some 7),(.a (.alloc 28 [.nilsl])),none,0⟩,
⟨none,(.x (.st 1 (.t 7) (.t 32))),none,0⟩])
(.seq (.seq (.reg [⟨(some 33),(.q (.ld false 1 (.t 2))),none,0⟩,
⟨(some 34),(.q (.nilchk (.t 33))),none,0⟩,
⟨(some 35),(.q (.faddr 0 (.t 34))),none,0⟩,
⟨(some 36),(.q (.faddr 2 (.t 35))),none,0⟩,
⟨(some 37),(.q (.ld false 1 (.t 36))),none,0⟩,
⟨(some 38),(.q (.lenSl (.t 37))),none,0⟩,
⟨(some 39),(.q (.mv (.c (.int .i64 (.ofNat 0))))),none,0⟩])
(.block 0 (.loop (.seq (.reg [⟨(some 40),(.q (.bin .lss (.p .int) (.t 39) (.t 38))),none,0⟩])
(.seq (.cond (.t 40) .skip (.exit 0))
(.seq (.block 1 (.seq (.reg [⟨(some 41),(.q (.mv (.t 39))),none,0⟩,
⟨(some 42),(.q (.iaddr (.slice 2) (.t 37) (.t 39))),none,0⟩,
⟨(some 43),(.q (.ld true 2 (.t 42))),none,0⟩,
⟨(some 9),(.a (.alloc 46 [(.int .i64 (.ofNat 0)),(.int .i64 (.ofNat 0))])),none,0⟩,
⟨(some 8),(.q (.mv (.t 41))),none,0⟩,
⟨none,(.x (.st 2 (.t 9) (.t 43))),none,0⟩])
(.drw [⟨(some 44),(.q (.faddr 1 (.t 6))),none,0⟩,
⟨(some 45),(.q (.ld false 1 (.t 44))),none,1⟩,
⟨(some 46),(.q (.mv (.t 8))),none,0⟩,
⟨(some 47),(.q (.faddr 1 (.t 9))),none,0⟩,
⟨(some 48),(.q (.ld false 1 (.t 47))),none,8⟩,
⟨(some 49),(.x (.call (.c (.fn 99 [] [])) [(.t 48)])),none,24⟩,
⟨(some 50),(.q (.iaddr (.slice 1) (.t 45) (.t 46))),none,63⟩,
⟨none,(.x (.st 1 (.t 50) (.t 49))),none,127⟩])))
(.reg [⟨(some 51),(.q (.bin .add (.p .int) (.t 39) (.c (.int .i64 (.ofNat 1))))),none,0⟩,
⟨(some 39),(.q (.mv (.t 51))),none,0⟩])))))))
(.seq (.reg [⟨(some 10),(.a (.alloc 134 [.nilfn])),none,0⟩])
(.seq (.reg [⟨(some 52),(.q (.mkFunc 100 [] [(.t 2),(.t 6),(.t 7),(.t 3),(.t 10)])),none,0⟩,
⟨none,(.x (.st 1 (.t 10) (.t 52))),none,0⟩])
(.seq (.seq (.reg [⟨(some 53),(.q (.ld false 1 (.t 3))),none,0⟩,
⟨(some 54),(.q (.iaddr (.slice 1) (.t 53) (.c (.int .i64 (.ofNat 0))))),none,0⟩,
⟨(some 55),(.q (.ld false 1 (.t 54))),none,0⟩,
⟨(some 56),(.q (.bin .neq (.p .int) (.t 55) (.c (.int .i64 (.ofNat 0))))),none,0⟩,
⟨(some 57),(.q (.mv (.t 56))),none,0⟩,
⟨(some 58),(.q (.ld false 1 (.t 10))),(some (57,false)),0⟩,
⟨(some 59),(.x (.call (.t 58) [(.c (.int .i64 (.ofNat 0))),(.c (.int .i64 (.ofNat 0)))])),(some (57,false)),0⟩,
⟨(some 60),(.q (.un .not (.t 59))),(some (57,false)),0⟩,
⟨(some 61),(.q (.pick (.t 57) (.c (.bool true)) (.t 60))),none,0⟩])
(.cond (.t 61) (.seq (.reg [⟨(some 62),(.q (.build [.nilsl,.nilsl] [])),none,0⟩,
⟨none,(.x (.st 2 (.t 4) (.t 62))),none,0⟩,
⟨(some 5),(.q (.mv (.c (.bool false)))),none,0⟩])
.ret) .skip))
(.seq (.reg [⟨(some 63),(.q (.ld true 2 (.t 6))),none,0⟩,
⟨none,(.x (.st 2 (.t 4) (.t 63))),none,0⟩,
⟨(some 5),(.q (.mv (.c (.bool true)))),none,0⟩])
.ret))))))))⟩
theorem row92 : Row Try.prog (92, a92) := ⟨Try.f92, Try.func92, by kernel_rfl⟩
noncomputable def a97 : AFn :=
⟨21,[(.t 4),(.t 5)],(.seq (.reg [⟨(some 2),(.a (.box 25 (.t 0))),none,0⟩,
⟨(some 4),(.q (.mv (.c .nilsl))),none,0⟩,
⟨(some 5),(.q (.mv (.c (.int .i64 (.ofNat 0))))),none,0⟩])
(.seq (.reg [⟨(some 10),(.q (.ld true 3 (.t 2))),none,0⟩,
⟨(some 11),(.x (.call (.c (.fn 103 [] [])) [(.t 10)])),none,0⟩,
⟨(some 9),(.q (.mv (.t 11))),none,0⟩,
⟨(some 12),(.q (.extract (.t 9) 0)),none,0⟩,
⟨(some 13),(.q (.extract (.t 9) 1)),none,0⟩,
⟨(some 6),(.q (.mv (.t 12))),none,0⟩,
⟨(some 7),(.q (.mv (.t 13))),none,0⟩])
(.seq (.seq (.reg [⟨(some 14),(.q (.mv (.t 7))),none,0⟩,
⟨(some 15),(.q (.bin .neq (.p .int) (.t 14) (.c (.int .i64 (.ofNat 0))))),none,0⟩])
(.cond (.t 15) (.seq (.reg [⟨(some 8),(.q (.mv (.c .nilsl))),none,0⟩])
(.seq (.reg [⟨(some 16),(.q (.mv (.t 8))),none,0⟩,
⟨(some 17),(.q (.mv (.t 7))),none,0⟩,
⟨(some 4),(.q (.mv (.t 16))),none,0⟩,
⟨(some 5),(.q (.mv (.t 17))),none,0⟩])
.ret)) .skip))
(.seq (.reg [⟨(some 18),(.q (.mv (.t 1))),none,0⟩,
⟨(some 19),(.q (.mv (.t 6))),none,0⟩,
⟨(some 20),(.x (.call (.t 18) [(.t 19)])),none,0⟩,
⟨(some 4),(.q (.mv (.t 20))),none,0⟩,
⟨(some 5),(.q (.mv (.c (.int .i64 (.ofNat 0))))),none,0⟩])
.ret))))⟩
theorem row97 : Row Try.prog (97, a97) := ⟨Try.f97, Try.func97, by kernel_rfl⟩
noncomputable def a98 : AFn :=
⟨7,[(.t 2)],(.seq (.reg [⟨(some 2),(.q (.mv (.c .nilsl))),none,0⟩])
(.seq (.reg [⟨(some 3),(.q (.mv (.t 0))),none,0⟩,
⟨(some 4),(.q (.nilchk (.t 3))),none,0⟩,
⟨(some 5),(.q (.faddr 3 (.t 4))),none,0⟩,
⟨(some 6),(.q (.ld false 1 (.t 5))),none,0⟩,
⟨(some 2),(.q (.mv (.t 6))),none,0⟩])
.ret))⟩
theorem row98 : Row Try.prog (98, a98) := ⟨Try.f98, Try.func98, by kernel_rfl⟩
noncomputable def a99 : AFn :=
⟨17,[(.t 2)],(.seq (.reg [⟨(some 2),(.q (.mv (.c .nilsl))),none,0⟩])
(.seq (.reg [⟨(some 5),(.q (.mv (.t 0))),none,0⟩,
⟨(some 6),(.a (.mkSlice 3 1 8 [(.int .i64 (.ofNat 0))] (.t 5) (.t 5))),none,0⟩,
⟨(some 3),(.q (.mv (.t 6))),none,0⟩])
(.seq (.seq (.reg [⟨(some 7),(.q (.mv (.t 3))),none,0⟩,
⟨(some 8),(.q (.lenSl (.t 7))),none,0⟩,
⟨(some 9),(.q (.mv (.c (.int .i64 (.ofNat 0))))),none,0⟩])
(.block 0 (.loop (.seq (.reg [⟨(some 10),(.q (.bin .lss (.p .int) (.t 9) (.t 8))),none,0⟩])
(.seq (.cond (.t 10) .skip (.exit 0))
(.seq (.block 1 (.seq (.reg [⟨(some 11),(.q (.mv (.t 9))),none,0⟩,
⟨(some 4),(.q (.mv (.t 11))),none,0⟩])
(.reg [⟨(some 12),(.q (.mv (.t 3))),none,0⟩,
⟨(some 13),(.q (.mv (.t 4))),none,0⟩,
⟨(some 14),(.q (.iaddr (.slice 1) (.t 12) (.t 13))),none,0⟩,
⟨none,(.x (.st 1 (.t 14) (.c (.int .i64 (.negSucc 0))))),none,0⟩])))
(.reg [⟨(some 15),(.q (.bin .add (.p .int) (.t 9) (.c (.int .i64 (.ofNat 1))))),none,0⟩,
⟨(some 9),(.q (.mv (.t 15))),none,0⟩])))))))
(.seq (.reg [⟨(some 16),(.q (.mv (.t 3))),none,0⟩,
⟨(some 2),(.q (.mv (.t 16))),none,0⟩])
.ret))))⟩
theorem row99 : Row Try.prog (99, a99) := ⟨Try.f99, Try.func99, by kernel_rfl⟩
noncomputable def a100 : AFn :=
⟨155,[(.t 9)],(.seq (.reg [⟨(some 9),(.q (.mv (.c (.bool false)))),none,0⟩])
(.seq (.drw [⟨(some 16),(.q (.ld false 1 (.t 2))),none,0⟩,
⟨(some 17),(.q (.nilchk (.t 16))),none,1⟩,
⟨(some 18),(.q (.faddr 0 (.t 17))),none,3⟩,
⟨(some 19),(.q (.faddr 1 (.t 18))),none,7⟩,
⟨(some 20),(.q (.ld false 1 (.t 19))),none,15⟩,
⟨(some 21),(.q (.mv (.t 0))),none,0⟩,
⟨(some 22),(.q (.iaddr (.slice 6) (.t 20) (.t 21))),none,63⟩,
⟨(some 23),(.q (.ld true 6 (.t 22))),none,127⟩,
⟨(some 24),(.q (.ld false 1 (.t 2))),none,0⟩,
⟨(some 25),(.q (.nilchk (.t 24))),none,256⟩,
⟨(some 26),(.q (.faddr 0 (.t 25))),none,768⟩,
⟨(some 27),(.q (.faddr 1 (.t 26))),none,1792⟩,
⟨(some 28),(.q (.ld false 1 (.t 27))),none,3840⟩,
⟨(some 29),(.q (.mv (.t 1))),none,0⟩,
⟨(some 30),(.q (.iaddr (.slice 6) (.t 28) (.t 29))),none,16128⟩,
⟨(some 31),(.q (.ld true 6 (.t 30))),none,32512⟩,
⟨(some 10),(.a (.alloc 56 [(.int .i64 (.ofNat 0)),(.int .i64 (.ofNat 0)),(.int .i64 (.ofNat 0)),.nilsl,.nilsl,.nilsl])),none,0⟩,
⟨(some 11),(.a (.alloc 56 [(.int .i64 (.ofNat 0)),(.int .i64 (.ofNat 0)),(.int .i64 (.ofNat 0)),.nilsl,.nilsl,.nilsl])),none,0⟩,
⟨none,(.x (.st 6 (.t 10) (.t 23))),none,196863⟩,
⟨none,(.x (.st 6 (.t 11) (.t 31))),none,524287⟩])
(.seq (.seq (.reg [⟨(some 32),(.q (.faddr 0 (.t 10))),none,0⟩,
⟨(some 33),(.q (.ld false 1 (.t 32))),none,0⟩,
⟨(some 34),(.q (.faddr 0 (.t 11))),none,0⟩,
⟨(some 35),(.q (.ld false 1 (.t 34))),none,0⟩,
⟨(some 36),(.q (.bin .neq (.p .int) (.t 33) (.t 35))),none,0⟩,
⟨(some 37),(.q (.mv (.t 36))),none,0⟩,
⟨(some 38),(.q (.faddr 1 (.t 10))),(some (37,false)),0⟩,
⟨(some 39),(.q (.ld false 1 (.t 38))),(some (37,false)),0⟩,
⟨(some 40),(.q (.faddr 1 (.t 11))),(some (37,false)),0⟩,
⟨(some 41),(.q (.ld false 1 (.t 40))),(some (37,false)),0⟩,
⟨(some 42),(.q (.bin .neq (.p .int) (.t 39) (.t 41))),(some (37,false)),0⟩,
⟨(some 43),(.q (.pick (.t 37) (.c (.bool true)) (.t 42))),none,0⟩,
⟨(some 44),(.q (.mv (.t 43))),none,0⟩,
⟨(some 45),(.q (.faddr 3 (.t 10))),(some (44,false)),0⟩,
⟨(some 46),(.q (.ld false 1 (.t 45))),(some (44,false)),0⟩,
⟨(some 47),(.q (.lenSl (.t 46))),(some (44,false)),0⟩,
⟨(some 48),(.q (.faddr 3 (.t 11))),(some (44,false)),0⟩,
⟨(some 49),(.q (.ld false 1 (.t 48))),(some (44,false)),0⟩,
⟨(some 50),(.q (.lenSl (.t 49))),(some (44,false)),0⟩,
⟨(some 51),(.q (.bin .neq (.p .int) (.t 47) (.t 50))),(some (44,false)),0⟩,
⟨(some 52),(.q (.pick (.t 44) (.c (.bool true)) (.t 51))),none,0⟩,
⟨(some 53),(.q (.mv (.t 52))),none,0⟩,
⟨(some 54),(.q (.faddr 5 (.t 10))),(some (53,false)),0⟩,
⟨(some 55),(.q (.ld false 1 (.t 54))),(some (53,false)),0⟩,
⟨(some 56),(.q (.faddr 5 (.t 11))),(some (53,false)),0⟩,
⟨(some 57),(.q (.ld false 1 (.t 56))),(some (53,false)),0⟩,
⟨(some 58),(.x (.call (.c (.fn 101 [] [])) [(.t 55),(.t 57)])),(some (53,false)),0⟩,
⟨(some 59),(.q (.un .not (.t 58))),(some (53,false)),0⟩,
⟨(some 60),(.q (.pick (.t 53) (.c (.bool true)) (.t 59))),none,0⟩])
(.cond (.t 60) (.seq (.reg [⟨(some 9),(.q (.mv (.c (.bool false)))),none,0⟩])
.ret) .skip))
(.seq (.reg [⟨(some 61),(.q (.faddr 0 (.t 10))),none,0⟩,
⟨(some 62),(.q (.ld false 1 (.t 61))),none,0⟩,
⟨(some 63),(.q (.bin .eql (.p .int) (.t 62) (.c (.int .i64 (.ofNat 2))))),none,0⟩,
⟨(some 12),(.q (.mv (.t 63))),none,0⟩])
(.seq (.seq (.reg [⟨(some 64),(.q (.mv (.t 12))),none,0⟩,
⟨(some 65),(.q (.mv (.t 64))),none,0⟩,
⟨(some 66),(.q (.faddr 0 (.t 3))),(some (65,true)),0⟩,
⟨(some 67),(.q (.ld false 1 (.t 66))),(some (65,true)),0⟩,
⟨(some 68),(.q (.faddr 2 (.t 10))),(some (65,true)),0⟩,
⟨(some 69),(.q (.ld false 1 (.t 68))),(some (65,true)),0⟩,
⟨(some 70),(.q (.faddr 2 (.t 11))),(some (65,true)),0⟩,
⟨(some 71),(.q (.ld false 1 (.t 70))),(some (65,true)),0⟩,
⟨(some 72),(.x (.call (.c (.fn 102 [] [])) [(.t 67),(.t 69),(.t 71)])),(some (65,true)),0⟩,
⟨(some 73),(.q (.un .not (.t 72))),(some (65,true)),0⟩,
⟨(some 74),(.q (.pick (.t 65) (.t 73) (.c (.bool false)))),none,0⟩,
⟨(some 75),(.q (.mv (.t 74))),none,0⟩,
⟨(some 76),(.q (.mv (.t 12))),(some (75,false)),0⟩,
⟨(some 77),(.q (.mv (.t 76))),(some (75,false)),0⟩,
⟨(some 78),(.q (.ld false 1 (.t 4))),(some (77,true)),0⟩,
⟨(some 79),(.q (.faddr 2 (.t 11))),(some (77,true)),0⟩,
⟨(some 80),(.q (.ld false 1 (.t 79))),(some (77,true)),0⟩,
⟨(some 81),(.q (.faddr 2 (.t 10))),(some (77,true)),0⟩,
⟨(some 82),(.q (.ld false 1 (.t 81))),(some (77,true)),0⟩,
⟨(some 83),(.x (.call (.c (.fn 102 [] [])) [(.t 78),(.t 80),(.t 82)])),(some (77,true)),0⟩,
⟨(some 84),(.q (.un .not (.t 83))),(some (77,true)),0⟩,
⟨(some 85),(.q (.pick (.t 77) (.t 84) (.c (.bool false)))),(some (75,false)),0⟩,
⟨(some 86),(.q (.pick (.t 75) (.c (.bool true)) (.t 85))),none,0⟩])
(.cond (.t 86) (.seq (.reg [⟨(some 9),(.q (.mv (.c (.bool false)))),none,0⟩])
.ret) .skip))
(.seq (.seq (.reg [⟨(some 87),(.q (.faddr 3 (.t 10))),none,0⟩,
⟨(some 88),(.q (.ld false 1 (.t 87))),none,0⟩,
⟨(some 89),(.q (.lenSl (.t 88))),none,0⟩,
⟨(some 90),(.q (.mv (.c (.int .i64 (.ofNat 0))))),none,0⟩])
(.block 0 (.loop (.seq (.reg [⟨(some 91),(.q (.bin .lss (.p .int) (.t 90) (.t 89))),none,0⟩])
(.seq (.cond (.t 91) .skip (.exit 0))
(.seq (.block 1 (.seq (.reg [⟨(some 92),(.q (.mv (.t 90))),none,0⟩,
⟨(some 93),(.q (.iaddr (.slice 1) (.t 88) (.t 90))),none,0⟩,
⟨(some 94),(.q (.ld false 1 (.t 93))),none,0⟩,
⟨(some 13),(.q (.mv (.t 92))),none,0⟩,
⟨(some 14),(.q (.mv (.t 94))),none,0⟩])
(.seq (.reg [⟨(some 95),(.q (.ld false 1 (.t 5))),none,0⟩,
⟨(some 96),(.q (.mv (.t 14))),none,0⟩,
⟨(some 97),(.q (.iaddr (.slice 1) (.t 95) (.t 96))),none,0⟩,
⟨(some 98),(.q (.ld false 1 (.t 97))),none,0⟩,
⟨(some 15),(.q (.mv (.t 98))),none,0⟩])
(.seq (.seq (.reg [⟨(some 99),(.q (.ld false 1 (.t 2))),none,0⟩,
⟨(some 100),(.q (.nilchk (.t 99))),none,0⟩,
⟨(some 101),(.q (.faddr 3 (.t 100))),none,0⟩,
⟨(some 102),(.q (.ld false 1 (.t 101))),none,0⟩,
⟨(some 103),(.q (.mv (.t 15))),none,0⟩,
⟨(some 104),(.q (.iaddr (.slice 1) (.t 102) (.t 103))),none,0⟩,
⟨(some 105),(.q (.ld false 1 (.t 104))),none,0⟩,
⟨(some 106),(.q (.mv (.t 1))),none,0⟩,
⟨(some 107),(.q (.bin .neq (.p .int) (.t 105) (.t 106))),none,0⟩])
(.cond (.t 107) (.seq (.reg [⟨(some 9),(.q (.mv (.c (.bool false)))),none,0⟩])
.ret) .skip))
(.seq (.seq (.drw [⟨(some 108),(.q (.faddr 0 (.t 10))),none,0⟩,
⟨(some 109),(.q (.ld false 1 (.t 108))),none,1⟩,
⟨(some 110),(.q (.bin .eql (.p .int) (.t 109) (.c (.int .i64 (.ofNat 1))))),none,3⟩,
⟨(some 111),(.q (.mv (.t 110))),none,7⟩,
⟨(some 112),(.q (.faddr 4 (.t 10))),(some (111,true)),15⟩,
⟨(some 113),(.q (.ld false 1 (.t 112))),(some (111,true)),31⟩,
⟨(some 114),(.q (.mv (.t 13))),(some (111,true)),15⟩,
⟨(some 115),(.q (.iaddr (.slice 1) (.t 113) (.t 114))),(some (111,true)),127⟩,
⟨(some 116),(.q (.ld false 1 (.t 115))),(some (111,true)),255⟩,
⟨(some 117),(.q (.faddr 4 (.t 11))),(some (111,true)),15⟩,
⟨(some 118),(.q (.ld false 1 (.t 117))),(some (111,true)),527⟩,
⟨(some 119),(.q (.ld false 1 (.t 2))),(some (111,true)),15⟩,
⟨(some 120),(.q (.nilchk (.t 119))),(some (111,true)),2063⟩,
⟨(some 121),(.q (.faddr 4 (.t 120))),(some (111,true)),6159⟩,
⟨(some 122),(.q (.ld false 1 (.t 121))),(some (111,true)),14351⟩,
⟨(some 123),(.q (.mv (.t 15))),(some (111,true)),15⟩,
⟨(some 124),(.q (.iaddr (.slice 1) (.t 122) (.t 123))),(some (111,true)),63503⟩,
⟨(some 125),(.q (.ld false 1 (.t 124))),(some (111,true)),129039⟩,
⟨(some 126),(.q (.iaddr (.slice 1) (.t 118) (.t 125))),(some (111,true)),261647⟩,
⟨(some 127),(.q (.ld false 1 (.t 126))),(some (111,true)),523791⟩,
⟨(some 128),(.q (.bin .neq (.p .int) (.t 116) (.t 127))),(some (111,true)),1048575⟩,
⟨(some 129),(.q (.pick (.t 111) (.t 128) (.c (.bool false)))),none,2097151⟩])
(.cond (.t 129) (.seq (.reg [⟨(some 9),(.q (.mv (.c (.bool false)))),none,0⟩])
.ret) .skip))
(.seq (.seq (.drw [⟨(some 130),(.q (.mv (.t 12))),none,0⟩,
⟨(some 131),(.q (.mv (.t 130))),none,1⟩,
⟨(some 132),(.q (.faddr 1 (.t 3))),(some (131,true)),3⟩,
⟨(some 133),(.q (.ld false 1 (.t 132))),(some (131,true)),7⟩,
⟨(some 134),(.q (.faddr 2 (.t 10))),(some (131,true)),3⟩,
⟨(some 135),(.q (.ld false 1 (.t 134))),(some (131,true)),19⟩,
⟨(some 136),(.q (.iaddr (.slice 1) (.t 133) (.t 135))),(some (131,true)),63⟩,
⟨(some 137),(.q (.ld false 1 (.t 136))),(some (131,true)),127⟩,
⟨(some 138),(.q (.mv (.t 13))),(some (131,true)),3⟩,
⟨(some 139),(.q (.ld false 1 (.t 2))),(some (131,true)),3⟩,
⟨(some 140),(.q (.nilchk (.t 139))),(some (131,true)),515⟩,
⟨(some 141),(.q (.faddr 4 (.t 140))),(some (131,true)),1539⟩,
⟨(some 142),(.q (.ld false 1 (.t 141))),(some (131,true)),3587⟩,
⟨(some 143),(.q (.mv (.t 15))),(some (131,true)),3⟩,
⟨(some 144),(.q (.iaddr (.slice 1) (.t 142) (.t 143))),(some (131,true)),15875⟩,
⟨(some 145),(.q (.ld false 1 (.t 144))),(some (131,true)),32259⟩,
⟨(some 146),(.x (.call (.c (.fn 102 [] [])) [(.t 137),(.t 138),(.t 145)])),(some (131,true)),65535⟩,
⟨(some 147),(.q (.un .not (.t 146))),(some (131,true)),131071⟩,
⟨(some 148),(.q (.pick (.t 131) (.t 147) (.c (.bool false)))),none,262143⟩])
(.cond (.t 148) (.seq (.reg [⟨(some 9),(.q (.mv (.c (.bool false)))),none,0⟩])
.ret) .skip))
(.seq (.reg [⟨(some 149),(.q (.ld false 1 (.t 6))),none,0⟩,
⟨(some 150),(.q (.mv (.t 14))),none,0⟩,
⟨(some 151),(.q (.mv (.t 15))),none,0⟩,
⟨(some 152),(.x (.call (.t 149) [(.t 150),(.t 151)])),none,0⟩,
⟨(some 153),(.q (.un .not (.t 152))),none,0⟩])
(.cond (.t 153) (.seq (.reg [⟨(some 9),(.q (.mv (.c (.bool false)))),none,0⟩])
.ret) .skip))))))))
(.reg [⟨(some 154),(.q (.bin .add (.p .int) (.t 90) (.c (.int .i64 (.ofNat 1))))),none,0⟩,
⟨(some 90),(.q (.mv (.t 154))),none,0⟩])))))))
(.seq (.reg [⟨(some 9),(.q (.mv (.c (.bool true)))),none,0⟩])
.ret)))))))⟩
theorem row100 : Row Try.prog (100, a100) := ⟨Try.f100, Try.func100, by kernel_rfl⟩
noncomputable def a101 : AFn :=
⟨26,[(.t 4)],(.seq (.reg [⟨(some 4),(.q (.mv (.c (.bool false)))),none,0⟩])
(.seq (.seq (.reg [⟨(some 6),(.q (.mv (.t 0))),none,0⟩,
⟨(some 7),(.q (.lenSl (.t 6))),none,0⟩,
⟨(some 8),(.q (.mv (.t 1))),none,0⟩,
⟨(some 9),(.q (.lenSl (.t 8))),none,0⟩,
⟨(some 10),(.q (.bin .neq (.p .int) (.t 7) (.t 9))),none,0⟩])
(.cond (.t 10) (.seq (.reg [⟨(some 4),(.q (.mv (.c (.bool false)))),none,0⟩])
.ret) .skip))
(.seq (.seq (.reg [⟨(some 11),(.q (.mv (.t 0))),none,0⟩,
⟨(some 12),(.q (.lenSl (.t 11))),none,0⟩,
⟨(some 13),(.q (.mv (.c (.int .i64 (.ofNat 0))))),none,0⟩])
(.block 0 (.loop (.seq (.reg [⟨(some 14),(.q (.bin .lss (.p .int) (.t 13) (.t 12))),none,0⟩])
(.seq (.cond (.t 14) .skip (.exit 0))
(.seq (.block 1 (.seq (.reg [⟨(some 15),(.q (.mv (.t 13))),none,0⟩,
⟨(some 5),(.q (.mv (.t 15))),none,0⟩])
(.seq (.drw [⟨(some 16),(.q (.mv (.t 0))),none,0⟩,
⟨(some 17),(.q (.mv (.t 5))),none,0⟩,
⟨(some 18),(.q (.iaddr (.slice 1) (.t 16) (.t 17))),none,3⟩,
⟨(some 19),(.q (.ld false 1 (.t 18))),none,7⟩,
⟨(some 20),(.q (.mv (.t 1))),none,0⟩,
⟨(some 21),(.q (.mv (.t 5))),none,0⟩,
⟨(some 22),(.q (.iaddr (.slice 1) (.t 20) (.t 21))),none,48⟩,
⟨(some 23),(.q (.ld false 1 (.t 22))),none,112⟩,
⟨(some 24),(.q (.bin .neq (.p .int) (.t 19) (.t 23))),none,255⟩])
(.cond (.t 24) (.seq (.reg [⟨(some 4),(.q (.mv (.c (.bool false)))),none,0⟩])
.ret) .skip))))
(.reg [⟨(some 25),(.q (.bin .add (.p .int) (.t 13) (.c (.int .i64 (.ofNat 1))))),none,0⟩,
⟨(some 13),(.q (.mv (.t 25))),none,0⟩])))))))
(.seq (.reg [⟨(some 4),(.q (.mv (.c (.bool true)))),none,0⟩])
.ret))))⟩
theorem row101 : Row Try.prog (101, a101) := ⟨Try.f101, Try.func101, by kernel_rfl⟩
noncomputable def a102 : AFn :=
⟨22,[(.t 6)],(.seq (.reg [⟨(some 6),(.q (.mv (.c (.bool false)))),none,0⟩])
(.seq (.seq (.reg [⟨(some 7),(.q (.mv (.t 0))),none,0⟩,
⟨(some 8),(.q (.mv (.t 1))),none,0⟩,
⟨(some 9),(.q (.iaddr (.slice 1) (.t 7) (.t 8))),none,0⟩,
⟨(some 10),(.q (.ld false 1 (.t 9))),none,0⟩,
⟨(some 11),(.q (.bin .lss (.p .int) (.t 10) (.c (.int .i64 (.ofNat 0))))),none,0⟩])
(.cond (.t 11) (.reg [⟨(some 12),(.q (.mv (.t 0))),none,0⟩,
⟨(some 13),(.q (.mv (.t 1))),none,0⟩,
⟨(some 14),(.q (.mv (.t 2))),none,0⟩,
⟨(some 15),(.q (.iaddr (.slice 1) (.t 12) (.t 13))),none,0⟩,
⟨none,(.x (.st 1 (.t 15) (.t 14))),none,0⟩]) .skip))
(.seq (.reg [⟨(some 16),(.q (.mv (.t 0))),none,0⟩,
⟨(some 17),(.q (.mv (.t 1))),none,0⟩,
⟨(some 18),(.q (.iaddr (.slice 1) (.t 16) (.t 17))),none,0⟩,
⟨(some 19),(.q (.ld false 1 (.t 18))),none,0⟩,
⟨(some 20),(.q (.mv (.t 2))),none,0⟩,
⟨(some 21),(.q (.bin .eql (.p .int) (.t 19) (.t 20))),none,0⟩,
⟨(some 6),(.q (.mv (.t 21))),none,0⟩])
.ret)))⟩
theorem row102 : Row Try.prog (102, a102) := ⟨Try.f102, Try.func102, by kernel_rfl⟩
noncomputable def a103 : AFn :=
⟨97,[(.t 2),(.t 3)],(.seq (.reg [⟨(some 1),(.a (.box 25 (.t 0))),none,0⟩,
⟨(some 2),(.q (.mv (.c .nilp))),none,0⟩,
⟨(some 3),(.q (.mv (.c (.int .i64 (.ofNat 0))))),none,0⟩])
(.seq (.seq (.reg [⟨(some 10),(.q (.faddr 0 (.t 1))),none,0⟩,
⟨(some 11),(.q (.ld false 1 (.t 10))),none,0⟩,
⟨(some 12),(.q (.bin .lss (.p .int) (.t 11) (.c (.int .i64 (.ofNat 1))))),none,0⟩,
⟨(some 13),(.q (.mv (.t 12))),none,0⟩,
⟨(some 14),(.q (.faddr 0 (.t 1))),(some (13,false)),0⟩,
⟨(some 15),(.q (.ld false 1 (.t 14))),(some (13,false)),0⟩,
⟨(some 16),(.q (.bin .gtr (.p .int) (.t 15) (.c (.int .i64 (.ofNat 4))))),(some (13,false)),0⟩,
⟨(some 17),(.q (.pick (.t 13) (.c (.bool true)) (.t 16))),none,0⟩,
⟨(some 18),(.q (.mv (.t 17))),none,0⟩,
⟨(some 19),(.q (.faddr 1 (.t 1))),(some (18,false)),0⟩,
⟨(some 20),(.q (.ld false 1 (.t 19))),(some (18,false)),0⟩,
⟨(some 21),(.q (.lenSl (.t 20))),(some (18,false)),0⟩,
⟨(some 22),(.q (.bin .lss (.p .int) (.t 21) (.c (.int .i64 (.ofNat 1))))),(some (18,false)),0⟩,
⟨(some 23),(.q (.pick (.t 18) (.c (.bool true)) (.t 22))),none,0⟩,
⟨(some 24),(.q (.mv (.t 23))),none,0⟩,
⟨(some 25),(.q (.faddr 1 (.t 1))),(some (24,false)),0⟩,
⟨(some 26),(.q (.ld false 1 (.t 25))),(some (24,false)),0⟩,
⟨(some 27),(.q (.lenSl (.t 26))),(some (24,false)),0⟩,
⟨(some 28),(.q (.bin .gtr (.p .int) (.t 27) (.c (.int .i64 (.ofNat 2000))))),(some (24,false)),0⟩,
⟨(some 29),(.q (.pick (.t 24) (.c (.bool true)) (.t 28))),none,0⟩,
⟨(some 30),(.q (.mv (.t 29))),none,0⟩,
⟨(some 31),(.q (.faddr 2 (.t 1))),(some (30,false)),0⟩,
⟨(some 32),(.q (.ld false 1 (.t 31))),(some (30,false)),0⟩,
⟨(some 33),(.q (.lenSl (.t 32))),(some (30,false)),0⟩,
⟨(some 34),(.q (.bin .gtr (.p .int) (.t 33) (.c (.int .i64 (.ofNat 200))))),(some (30,false)),0⟩,
⟨(some 35),(.q (.pick (.t 30) (.c (.bool true)) (.t 34))),none,0⟩])
(.cond (.t 35) (.seq (.reg [⟨(some 2),(.q (.mv (.c .nilp))),none,0⟩,
⟨(some 3),(.q (.mv (.c (.int .i64 (.ofNat 2))))),none,0⟩])
.ret) .skip))
(.seq (.reg [⟨(some 36),(.q (.ld true 3 (.t 1))),none,0⟩,
⟨(some 37),(.q (.build [(.int .i64 (.ofNat 0)),.nilsl,.nilsl,.nilsl,.nilsl,.nilsl] [(0,3,(.t 36))])),none,0⟩,
⟨(some 38),(.a (.box 177 (.t 37))),none,0⟩,
⟨(some 4),(.q (.mv (.t 38))),none,0⟩])
(.seq (.seq (.reg [⟨(some 39),(.q (.faddr 1 (.t 1))),none,0⟩,
⟨(some 40),(.q (.ld false 1 (.t 39))),none,0⟩,
⟨(some 41),(.q (.lenSl (.t 40))),none,0⟩,
⟨(some 42),(.q (.mv (.c (.int .i64 (.ofNat 0))))),none,0⟩])
(.block 0 (.loop (.seq (.reg [⟨(some 43),(.q (.bin .lss (.p .int) (.t 42) (.t 41))),none,0⟩])
(.seq (.cond (.t 43) .skip (.exit 0))
(.seq (.block 1 (.seq (.reg [⟨(some 44),(.q (.iaddr (.slice 6) (.t 40) (.t 42))),none,0⟩,
⟨(some 45),(.q (.ld true 6 (.t 44))),none,0⟩,
⟨(some 6),(.a (.alloc 56 [(.int .i64 (.ofNat 0)),(.int .i64 (.ofNat 0)),(.int .i64 (.ofNat 0)),.nilsl,.nilsl,.nilsl])),none,0⟩,
⟨none,(.x (.st 6 (.t 6) (.t 45))),none,0⟩])
(.seq (.reg [⟨(some 46),(.q (.mv (.t 4))),none,0⟩,
⟨(some 47),(.q (.ld true 6 (.t 6))),none,0⟩,
⟨(some 48),(.x (.call (.c (.fn 104 [] [])) [(.t 46),(.t 47)])),none,0⟩,
⟨(some 7),(.q (.mv (.t 48))),none,0⟩])
(.seq (.reg [⟨(some 49),(.q (.mv (.t 7))),none,0⟩,
⟨(some 50),(.q (.bin .neq (.p .int) (.t 49) (.c (.int .i64 (.ofNat 0))))),none,0⟩])
(.cond (.t 50) (.seq (.reg [⟨(some 51),(.q (.mv (.t 7))),none,0⟩,
⟨(some 2),(.q (.mv (.c .nilp))),none,0⟩,
⟨(some 3),(.q (.mv (.t 51))),none,0⟩])
.ret) .skip)))))
(.reg [⟨(some 52),(.q (.bin .add (.p .int) (.t 42) (.c (.int .i64 (.ofNat 1))))),none,0⟩,
⟨(some 42),(.q (.mv (.t 52))),none,0⟩])))))))
(.seq (.drw [⟨(some 53),(.q (.mv (.t 4))),none,0⟩,
⟨(some 54),(.q (.mv (.t 4))),none,0⟩,
⟨(some 55),(.q (.mv (.t 4))),none,0⟩,
⟨(some 56),(.q (.faddr 1 (.t 1))),none,0⟩,
⟨(some 57),(.q (.ld false 1 (.t 56))),none,8⟩,
⟨(some 58),(.q (.lenSl (.t 57))),none,24⟩,
⟨(some 59),(.a (.mkSlice 3 1 8 [(.int .i64 (.ofNat 0))] (.t 58) (.t 58))),none,56⟩,
⟨(some 60),(.q (.faddr 1 (.t 1))),none,0⟩,
⟨(some 61),(.q (.ld false 1 (.t 60))),none,128⟩,
⟨(some 62),(.q (.lenSl (.t 61))),none,384⟩,
⟨(some 63),(.a (.mkSlice 3 1 8 [(.int .i64 (.ofNat 0))] (.t 62) (.t 62))),none,896⟩,
⟨(some 64),(.q (.faddr 1 (.t 1))),none,0⟩,
⟨(some 65),(.q (.ld false 1 (.t 64))),none,2048⟩,
⟨(some 66),(.q (.lenSl (.t 65))),none,6144⟩,
⟨(some 67),(.a (.mkSlice 3 1 8 [(.int .i64 (.ofNat 0))] (.t 66) (.t 66))),none,14336⟩,
⟨(some 68),(.q (.nilchk (.t 53))),none,121⟩,
⟨(some 69),(.q (.faddr 3 (.t 68))),none,32889⟩,
⟨none,(.x (.st 1 (.t 69) (.t 59))),none,98425⟩,
⟨(some 70),(.q (.nilchk (.t 54))),none,231419⟩,
⟨(some 71),(.q (.faddr 4 (.t 70))),none,493563⟩,
⟨none,(.x (.st 1 (.t 71) (.t 63))),none,1017851⟩,
⟨(some 72),(.q (.nilchk (.t 55))),none,2097151⟩,
⟨(some 73),(.q (.faddr 5 (.t 72))),none,4194303⟩,
⟨none,(.x (.st 1 (.t 73) (.t 67))),none,8388607⟩])
(.seq (.seq (.reg [⟨(some 75),(.q (.mv (.t 4))),none,0⟩,
⟨(some 76),(.q (.faddr 1 (.t 1))),none,0⟩,
⟨(some 77),(.q (.ld false 1 (.t 76))),none,0⟩,
⟨(some 78),(.x (.call (.c (.fn 105 [] [])) [(.t 75),(.c (.int .i64 (.negSucc 0))),(.c (.int .i64 (.ofNat 0))),(.t 77)])),none,0⟩,
⟨(some 74),(.q (.mv (.t 78))),none,0⟩,
⟨(some 79),(.q (.extract (.t 74) 0)),none,0⟩,
⟨(some 80),(.q (.extract (.t 74) 1)),none,0⟩,
⟨(some 8),(.q (.mv (.t 79))),none,0⟩,
⟨(some 9),(.q (.mv (.t 80))),none,0⟩])
(.seq (.reg [⟨(some 81),(.q (.mv (.t 9))),none,0⟩,
⟨(some 82),(.q (.un .not (.t 81))),none,0⟩,
⟨(some 83),(.q (.mv (.t 82))),none,0⟩,
⟨(some 84),(.q (.mv (.t 8))),(some (83,false)),0⟩,
⟨(some 85),(.q (.lenSl (.t 84))),(some (83,false)),0⟩,
⟨(some 86),(.q (.bin .gtr (.p .int) (.t 85) (.c (.int .i64 (.ofNat 0))))),(some (83,false)),0⟩,
⟨(some 87),(.q (.pick (.t 83) (.c (.bool true)) (.t 86))),none,0⟩])
(.cond (.t 87) (.seq (.reg [⟨(some 2),(.q (.mv (.c .nilp))),none,0⟩,
⟨(some 3),(.q (.mv (.c (.int .i64 (.ofNat 9))))),none,0⟩])
.ret) .skip)))
(.seq (.seq (.reg [⟨(some 88),(.q (.mv (.t 4))),none,0⟩,
⟨(some 89),(.q (.nilchk (.t 88))),none,0⟩,
⟨(some 90),(.q (.faddr 4 (.t 89))),none,0⟩,
⟨(some 91),(.q (.ld false 1 (.t 90))),none,0⟩,
⟨(some 92),(.x (.call (.c (.fn 106 [] [])) [(.t 91)])),none,0⟩,
⟨(some 93),(.q (.bin .gtr (.p .int) (.t 92) (.c (.int .i64 (.ofNat 40))))),none,0⟩])
(.cond (.t 93) (.seq (.reg [⟨(some 2),(.q (.mv (.c .nilp))),none,0⟩,
⟨(some 3),(.q (.mv (.c (.int .i64 (.ofNat 5))))),none,0⟩])
.ret) .skip))
(.seq (.reg [⟨(some 94),(.q (.mv (.t 4))),none,0⟩,
⟨(some 95),(.q (.mv (.t 4))),none,0⟩,
⟨(some 96),(.x (.call (.c (.fn 107 [] [])) [(.t 95)])),none,0⟩,
⟨(some 2),(.q (.mv (.t 94))),none,0⟩,
⟨(some 3),(.q (.mv (.t 96))),none,0⟩])
.ret))))))))⟩
theorem row103 : Row Try.prog (103, a103) := ⟨Try.f103, Try.func103, by kernel_rfl⟩
noncomputable def a104 : AFn :=
⟨22,[(.t 4)],(.seq (.reg [⟨(some 3),(.a (.box 56 (.t 1))),none,0⟩,
⟨(some 4),(.q (.mv (.c (.int .i64 (.ofNat 0))))),none,0⟩])
(.seq (.reg [⟨(some 6),(.q (.build [.nilfn,.nilfn,.nilfn,.nilfn] [(1,1,(.c (.fn 108 [] []))),(2,1,(.c (.fn 109 [] []))),(3,1,(.c (.fn 110 [] [])))])),none,0⟩,
⟨(some 5),(.a (.alloc 190 [.nilfn,.nilfn,.nilfn,.nilfn])),none,0⟩,
⟨none,(.x (.st 4 (.t 5) (.t 6))),none,0⟩])
(.seq (.seq (.reg [⟨(some 7),(.q (.faddr 0 (.t 3))),none,0⟩,
⟨(some 8),(.q (.ld false 1 (.t 7))),none,0⟩,
⟨(some 9),(.q (.bin .lss (.p .int) (.t 8) (.c (.int .i64 (.ofNat 1))))),none,0⟩,
⟨(some 10),(.q (.mv (.t 9))),none,0⟩,
⟨(some 11),(.q (.faddr 0 (.t 3))),(some (10,false)),0⟩,
⟨(some 12),(.q (.ld false 1 (.t 11))),(some (10,false)),0⟩,
⟨(some 13),(.q (.bin .gtr (.p .int) (.t 12) (.c (.int .i64 (.ofNat 3))))),(some (10,false)),0⟩,
⟨(some 14),(.q (.pick (.t 10) (.c (.bool true)) (.t 13))),none,0⟩])
(.cond (.t 14) (.seq (.reg [⟨(some 4),(.q (.mv (.c (.int .i64 (.ofNat 3))))),none,0⟩])
.ret) .skip))
(.seq (.drw [⟨(some 15),(.q (.faddr 0 (.t 3))),none,0⟩,
⟨(some 16),(.q (.ld false 1 (.t 15))),none,1⟩,
⟨(some 17),(.q (.iaddr (.arr 4 1) (.t 5) (.t 16))),none,3⟩,
⟨(some 18),(.q (.ld false 1 (.t 17))),none,7⟩,
⟨(some 19),(.q (.mv (.t 0))),none,0⟩,
⟨(some 20),(.q (.ld true 6 (.t 3))),none,0⟩,
⟨(some 21),(.x (.call (.t 18) [(.t 19),(.t 20)])),none,63⟩,
⟨(some 4),(.q (.mv (.t 21))),none,127⟩])
.ret))))⟩
theorem row104 : Row Try.prog (104, a104) := ⟨Try.f104, Try.func104, by kernel_rfl⟩
noncomputable def a105 : AFn :=
⟨92,[(.t 8),(.t 9)],(.seq (.reg [⟨(some 8),(.q (.mv (.c .nilsl))),none,0⟩,
⟨(some 9),(.q (.mv (.c (.bool false)))),none,0⟩])
(.seq (.seq (.reg [⟨(some 15),(.q (.mv (.t 3))),none,0⟩,
⟨(some 16),(.q (.lenSl (.t 15))),none,0⟩,
⟨(some 17),(.q (.bin .eql (.p .int) (.t 16) (.c (.int .i64 (.ofNat 0))))),none,0⟩])
(.cond (.t 17) (.seq (.reg [⟨(some 8),(.q (.mv (.c .nilsl))),none,0⟩,
⟨(some 9),(.q (.mv (.c (.bool false)))),none,0⟩])
.ret) .skip))
(.seq (.reg [⟨(some 18),(.q (.mv (.t 0))),none,0⟩,
⟨(some 19),(.q (.nilchk (.t 18))),none,0⟩,
⟨(some 20),(.q (.faddr 0 (.t 19))),none,0⟩,
⟨(some 21),(.q (.faddr 1 (.t 20))),none,0⟩,
⟨(some 22),(.q (.ld false 1 (.t 21))),none,0⟩,
⟨(some 23),(.q (.lenSl (.t 22))),none,0⟩,
⟨(some 24),(.q (.mv (.t 3))),none,0⟩,
⟨(some 25),(.q (.lenSl (.t 24))),none,0⟩,
⟨(some 26),(.q (.bin .sub (.p .int) (.t 23) (.t 25))),none,0⟩,
⟨(some 10),(.q (.mv (.t 26))),none,0⟩])
(.seq (.drw [⟨(some 27),(.q (.mv (.t 0))),none,0⟩,
⟨(some 28),(.q (.nilchk (.t 27))),none,1⟩,
⟨(some 29),(.q (.faddr 3 (.t 28))),none,3⟩,
⟨(some 30),(.q (.ld false 1 (.t 29))),none,7⟩,
⟨(some 31),(.q (.mv (.t 10))),none,0⟩,
⟨(some 32),(.q (.mv (.t 0))),none,0⟩,
⟨(some 33),(.q (.nilchk (.t 32))),none,32⟩,
⟨(some 34),(.q (.faddr 4 (.t 33))),none,96⟩,
⟨(some 35),(.q (.ld false 1 (.t 34))),none,224⟩,
⟨(some 36),(.q (.mv (.t 10))),none,0⟩,
⟨(some 37),(.q (.mv (.t 1))),none,0⟩,
⟨(some 38),(.q (.mv (.t 2))),none,0⟩,
⟨(some 39),(.q (.iaddr (.slice 1) (.t 30) (.t 31))),none,1535⟩,
⟨none,(.x (.st 1 (.t 39) (.t 37))),none,5631⟩,
⟨(some 40),(.q (.iaddr (.slice 1) (.t 35) (.t 36))),none,16383⟩,
⟨none,(.x (.st 1 (.t 40) (.t 38))),none,32767⟩])
(.seq (.reg [⟨(some 41),(.q (.mv (.t 3))),none,0⟩,
⟨(some 42),(.q (.slc (.slice 6) (.t 41) (some (.c (.int .i64 (.ofNat 1)))) none none)),none,0⟩,
⟨(some 11),(.q (.mv (.t 42))),none,0⟩,
⟨(some 12),(.q (.mv (.c (.bool true)))),none,0⟩])
(.seq (.seq (.reg [⟨(some 43),(.q (.mv (.t 3))),none,0⟩,
⟨(some 44),(.q (.iaddr (.slice 6) (.t 43) (.c (.int .i64 (.ofNat 0))))),none,0⟩,
⟨(some 45),(.q (.faddr 3 (.t 44))),none,0⟩,
⟨(some 46),(.q (.ld false 1 (.t 45))),none,0⟩,
⟨(some 47),(.q (.lenSl (.t 46))),none,0⟩,
⟨(some 48),(.q (.mv (.c (.int .i64 (.ofNat 0))))),none,0⟩])
(.block 0 (.loop (.seq (.reg [⟨(some 49),(.q (.bin .lss (.p .int) (.t 48) (.t 47))),none,0⟩])
(.seq (.cond (.t 49) .skip (.exit 0))
(.seq (.block 1 (.seq (.reg [⟨(some 50),(.q (.iaddr (.slice 1) (.t 46) (.t 48))),none,0⟩,
⟨(some 51),(.q (.ld false 1 (.t 50))),none,0⟩,
⟨(some 14),(.q (.mv (.t 51))),none,0⟩])
(.seq (.seq (.reg [⟨(some 52),(.q (.mv (.t 14))),none,0⟩,
⟨(some 53),(.q (.mv (.t 0))),none,0⟩,
⟨(some 54),(.q (.nilchk (.t 53))),none,0⟩,
⟨(some 55),(.q (.faddr 0 (.t 54))),none,0⟩,
⟨(some 56),(.q (.faddr 1 (.t 55))),none,0⟩,
⟨(some 57),(.q (.ld false 1 (.t 56))),none,0⟩,
⟨(some 58),(.q (.lenSl (.t 57))),none,0⟩,
⟨(some 59),(.q (.mv (.t 11))),none,0⟩,
⟨(some 60),(.q (.lenSl (.t 59))),none,0⟩,
⟨(some 61),(.q (.bin .sub (.p .int) (.t 58) (.t 60))),none,0⟩,
⟨(some 62),(.q (.bin .neq (.p .int) (.t 52) (.t 61))),none,0⟩])
(.cond (.t 62) (.seq (.reg [⟨(some 8),(.q (.mv (.c .nilsl))),none,0⟩,
⟨(some 9),(.q (.mv (.c (.bool false)))),none,0⟩])
.ret) .skip))
(.seq (.reg [⟨(some 64),(.q (.mv (.t 0))),none,0⟩,
⟨(some 65),(.q (.mv (.t 10))),none,0⟩,
⟨(some 66),(.q (.mv (.t 2))),none,0⟩,
⟨(some 67),(.q (.bin .add (.p .int) (.t 66) (.c (.int .i64 (.ofNat 1))))),none,0⟩,
⟨(some 68),(.q (.mv (.t 11))),none,0⟩,
⟨(some 69),(.x (.call (.c (.fn 105 [] [])) [(.t 64),(.t 65),(.t 67),(.t 68)])),none,0⟩,
⟨(some 63),(.q (.mv (.t 69))),none,0⟩,
⟨(some 70),(.q (.extract (.t 63) 0)),none,0⟩,
⟨(some 71),(.q (.extract (.t 63) 1)),none,0⟩,
⟨(some 11),(.q (.mv (.t 70))),none,0⟩,
⟨(some 12),(.q (.mv (.t 71))),none,0⟩])
(.seq (.reg [⟨(some 72),(.q (.mv (.t 12))),none,0⟩,
⟨(some 73),(.q (.un .not (.t 72))),none,0⟩])
(.cond (.t 73) (.seq (.reg [⟨(some 8),(.q (.mv (.c .nilsl))),none,0⟩,
⟨(some 9),(.q (.mv (.c (.bool false)))),none,0⟩])
.ret) .skip))))))
(.reg [⟨(some 74),(.q (.bin .add (.p .int) (.t 48) (.c (.int .i64 (.ofNat 1))))),none,0⟩,
⟨(some 48),(.q (.mv (.t 74))),none,0⟩])))))))
(.seq (.drw [⟨(some 75),(.q (.mv (.t 0))),none,0⟩,
⟨(some 76),(.q (.nilchk (.t 75))),none,1⟩,
⟨(some 77),(.q (.faddr 5 (.t 76))),none,3⟩,
⟨(some 78),(.q (.ld false 1 (.t 77))),none,7⟩,
⟨(some 79),(.q (.mv (.t 10))),none,0⟩,
⟨(some 80),(.q (.mv (.t 0))),none,0⟩,
⟨(some 81),(.q (.nilchk (.t 80))),none,32⟩,
⟨(some 82),(.q (.faddr 0 (.t 81))),none,96⟩,
⟨(some 83),(.q (.faddr 1 (.t 82))),none,224⟩,
⟨(some 84),(.q (.ld false 1 (.t 83))),none,480⟩,
⟨(some 85),(.q (.lenSl (.t 84))),none,992⟩,
⟨(some 86),(.q (.mv (.t 11))),none,0⟩,
⟨(some 87),(.q (.lenSl (.t 86))),none,2048⟩,
⟨(some 88),(.q (.bin .sub (.p .int) (.t 85) (.t 87))),none,8160⟩,
⟨(some 89),(.q (.bin .sub (.p .int) (.t 88) (.c (.int .i64 (.ofNat 1))))),none,16352⟩,
⟨(some 90),(.q (.iaddr (.slice 1) (.t 78) (.t 79))),none,32767⟩,
⟨none,(.x (.st 1 (.t 90) (.t 89))),none,65535⟩])
(.seq (.reg [⟨(some 91),(.q (.mv (.t 11))),none,0⟩,
⟨(some 8),(.q (.mv (.t 91))),none,0⟩,
⟨(some 9),(.q (.mv (.c (.bool true)))),none,0⟩])
.ret))))))))⟩
theorem row105 : Row Try.prog (105, a105) := ⟨Try.f105, Try.func105, by kernel_rfl⟩
end Go.Proofs.Ytfmgnnfghdjpfaa.abstractNames
