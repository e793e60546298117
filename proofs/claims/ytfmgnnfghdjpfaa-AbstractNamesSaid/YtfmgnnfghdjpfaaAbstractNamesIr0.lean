/- The functions that AbstractNames reaches, as data of the evaluator (part 0), written by program; each is shown to be the compiler's result on the loaded function. -/
import Derived.Test.YtfmgnnfghdjpfaaProg
import Derived.Test.YtfmgnnfghdjpfaaEvSt
import Derived.KernelRfl
namespace Go.Proofs.Ytfmgnnfghdjpfaa.abstractNames
open Go.Ev
set_option maxRecDepth 100000
noncomputable def a8 : AFn :=
⟨70,[(.t 0)],(.seq (.reg [⟨(some 0),(.q (.mv (.c (.bool false)))),none,0⟩])
(.seq (.reg [⟨(some 7),(.q (.build [(.int .i64 (.ofNat 0)),(.int .i64 (.ofNat 0)),(.int .i64 (.ofNat 0)),(.int .i64 (.ofNat 0))] [(0,1,(.c (.int .i64 (.ofNat 3)))),(1,1,(.c (.int .i64 (.ofNat 4)))),(2,1,(.c (.int .i64 (.ofNat 3)))),(3,1,(.c (.int .i64 (.ofNat 4))))])),none,0⟩,
⟨(some 8),(.x (.call (.c (.fn 19 [] [])) [(.t 7)])),none,0⟩,
⟨(some 9),(.a (.bslice 3 1 7 [(.int .i64 (.ofNat 0))] [(0,(.c (.int .i64 (.ofNat 0)))),(1,(.c (.int .i64 (.ofNat 4)))),(2,(.c (.int .i64 (.ofNat 5)))),(3,(.c (.int .i64 (.ofNat 6)))),(4,(.c (.int .i64 (.ofNat 1)))),(5,(.c (.int .i64 (.ofNat 2)))),(6,(.c (.int .i64 (.ofNat 3))))])),none,0⟩,
⟨(some 10),(.a (.bslice 28 1 1 [.nilsl] [(0,(.t 9))])),none,0⟩,
⟨(some 11),(.x (.call (.c (.fn 9 [] [])) [(.t 8),(.t 10)])),none,0⟩,
⟨(some 6),(.q (.mv (.t 11))),none,0⟩,
⟨(some 12),(.q (.extract (.t 6) 0)),none,0⟩,
⟨(some 13),(.q (.extract (.t 6) 1)),none,0⟩,
⟨(some 1),(.a (.alloc 30 [(.int .i64 (.ofNat 0)),.nilsl,.nilsl,.nilsl,.nilsl,.nilsl])),none,0⟩,
⟨none,(.x (.st 6 (.t 1) (.t 12))),none,0⟩,
⟨(some 2),(.q (.mv (.t 13))),none,0⟩])
(.seq (.reg [⟨(some 15),(.q (.build [(.int .i64 (.ofNat 0)),(.int .i64 (.ofNat 0)),(.int .i64 (.ofNat 0)),(.int .i64 (.ofNat 0))] [(0,1,(.c (.int .i64 (.ofNat 3)))),(1,1,(.c (.int .i64 (.ofNat 4)))),(2,1,(.c (.int .i64 (.ofNat 4)))),(3,1,(.c (.int .i64 (.ofNat 3))))])),none,0⟩,
⟨(some 16),(.x (.call (.c (.fn 19 [] [])) [(.t 15)])),none,0⟩,
⟨(some 17),(.a (.bslice 3 1 7 [(.int .i64 (.ofNat 0))] [(0,(.c (.int .i64 (.ofNat 0)))),(1,(.c (.int .i64 (.ofNat 4)))),(2,(.c (.int .i64 (.ofNat 6)))),(3,(.c (.int .i64 (.ofNat 5)))),(4,(.c (.int .i64 (.ofNat 1)))),(5,(.c (.int .i64 (.ofNat 3)))),(6,(.c (.int .i64 (.ofNat 2))))])),none,0⟩,
⟨(some 18),(.a (.bslice 28 1 1 [.nilsl] [(0,(.t 17))])),none,0⟩,
⟨(some 19),(.x (.call (.c (.fn 9 [] [])) [(.t 16),(.t 18)])),none,0⟩,
⟨(some 14),(.q (.mv (.t 19))),none,0⟩,
⟨(some 20),(.q (.extract (.t 14) 0)),none,0⟩,
⟨(some 21),(.q (.extract (.t 14) 1)),none,0⟩,
⟨(some 3),(.a (.alloc 30 [(.int .i64 (.ofNat 0)),.nilsl,.nilsl,.nilsl,.nilsl,.nilsl])),none,0⟩,
⟨none,(.x (.st 6 (.t 3) (.t 20))),none,0⟩,
⟨(some 4),(.q (.mv (.t 21))),none,0⟩])
(.seq (.reg [⟨(some 22),(.q (.mv (.t 2))),none,0⟩,
⟨(some 23),(.q (.bin .eql (.p .int) (.t 22) (.c (.int .i64 (.ofNat 0))))),none,0⟩,
⟨(some 24),(.q (.mv (.t 23))),none,0⟩,
⟨(some 25),(.q (.faddr 3 (.t 1))),(some (24,true)),0⟩,
⟨(some 26),(.q (.ld false 1 (.t 25))),(some (24,true)),0⟩,
⟨(some 27),(.a (.bslice 3 1 2 [(.int .i64 (.ofNat 0))] [(0,(.c (.int .i64 (.ofNat 0)))),(1,(.c (.int .i64 (.ofNat 0))))])),(some (24,true)),0⟩,
⟨(some 28),(.x (.call (.c (.fn 17 [] [])) [(.t 26),(.t 27)])),(some (24,true)),0⟩,
⟨(some 29),(.q (.pick (.t 24) (.t 28) (.c (.bool false)))),none,0⟩,
⟨(some 30),(.q (.mv (.t 29))),none,0⟩,
⟨(some 31),(.q (.faddr 4 (.t 1))),(some (30,true)),0⟩,
⟨(some 32),(.q (.ld false 1 (.t 31))),(some (30,true)),0⟩,
⟨(some 33),(.a (.bslice 3 1 2 [(.int .i64 (.ofNat 0))] [(0,(.c (.int .i64 (.ofNat 0)))),(1,(.c (.int .i64 (.ofNat 1))))])),(some (30,true)),0⟩,
⟨(some 34),(.a (.bslice 3 1 2 [(.int .i64 (.ofNat 0))] [(0,(.c (.int .i64 (.ofNat 0)))),(1,(.c (.int .i64 (.ofNat 1))))])),(some (30,true)),0⟩,
⟨(some 35),(.a (.bslice 28 1 2 [.nilsl] [(0,(.t 33)),(1,(.t 34))])),(some (30,true)),0⟩,
⟨(some 36),(.x (.call (.c (.fn 31 [] [])) [(.t 32),(.t 35)])),(some (30,true)),0⟩,
⟨(some 37),(.q (.pick (.t 30) (.t 36) (.c (.bool false)))),none,0⟩,
⟨(some 38),(.q (.mv (.t 37))),none,0⟩,
⟨(some 39),(.q (.faddr 5 (.t 1))),(some (38,true)),0⟩,
⟨(some 40),(.q (.ld false 1 (.t 39))),(some (38,true)),0⟩,
⟨(some 41),(.a (.bslice 3 1 7 [(.int .i64 (.ofNat 0))] [(0,(.c (.int .i64 (.ofNat 0)))),(1,(.c (.int .i64 (.ofNat 1)))),(2,(.c (.int .i64 (.ofNat 2)))),(3,(.c (.int .i64 (.ofNat 3)))),(4,(.c (.int .i64 (.ofNat 4)))),(5,(.c (.int .i64 (.ofNat 5)))),(6,(.c (.int .i64 (.ofNat 6))))])),(some (38,true)),0⟩,
⟨(some 42),(.x (.call (.c (.fn 17 [] [])) [(.t 40),(.t 41)])),(some (38,true)),0⟩,
⟨(some 43),(.q (.pick (.t 38) (.t 42) (.c (.bool false)))),none,0⟩,
⟨(some 44),(.q (.mv (.t 43))),none,0⟩,
⟨(some 45),(.q (.faddr 0 (.t 1))),(some (44,true)),0⟩,
⟨(some 46),(.q (.faddr 2 (.t 45))),(some (44,true)),0⟩,
⟨(some 47),(.q (.ld false 1 (.t 46))),(some (44,true)),0⟩,
⟨(some 48),(.q (.lenSl (.t 47))),(some (44,true)),0⟩,
⟨(some 49),(.q (.bin .eql (.p .int) (.t 48) (.c (.int .i64 (.ofNat 1))))),(some (44,true)),0⟩,
⟨(some 50),(.q (.pick (.t 44) (.t 49) (.c (.bool false)))),none,0⟩,
⟨(some 5),(.q (.mv (.t 50))),none,0⟩])
(.seq (.reg [⟨(some 51),(.q (.mv (.t 5))),none,0⟩,
⟨(some 52),(.q (.mv (.t 51))),none,0⟩,
⟨(some 53),(.q (.mv (.t 4))),(some (52,true)),0⟩,
⟨(some 54),(.q (.bin .eql (.p .int) (.t 53) (.c (.int .i64 (.ofNat 0))))),(some (52,true)),0⟩,
⟨(some 55),(.q (.pick (.t 52) (.t 54) (.c (.bool false)))),none,0⟩,
⟨(some 56),(.q (.mv (.t 55))),none,0⟩,
⟨(some 57),(.q (.faddr 4 (.t 3))),(some (56,true)),0⟩,
⟨(some 58),(.q (.ld false 1 (.t 57))),(some (56,true)),0⟩,
⟨(some 59),(.a (.bslice 3 1 2 [(.int .i64 (.ofNat 0))] [(0,(.c (.int .i64 (.ofNat 0)))),(1,(.c (.int .i64 (.ofNat 1))))])),(some (56,true)),0⟩,
⟨(some 60),(.a (.bslice 3 1 2 [(.int .i64 (.ofNat 0))] [(0,(.c (.int .i64 (.ofNat 1)))),(1,(.c (.int .i64 (.ofNat 0))))])),(some (56,true)),0⟩,
⟨(some 61),(.a (.bslice 28 1 2 [.nilsl] [(0,(.t 59)),(1,(.t 60))])),(some (56,true)),0⟩,
⟨(some 62),(.x (.call (.c (.fn 31 [] [])) [(.t 58),(.t 61)])),(some (56,true)),0⟩,
⟨(some 63),(.q (.pick (.t 56) (.t 62) (.c (.bool false)))),none,0⟩,
⟨(some 64),(.q (.mv (.t 63))),none,0⟩,
⟨(some 65),(.q (.faddr 5 (.t 3))),(some (64,true)),0⟩,
⟨(some 66),(.q (.ld false 1 (.t 65))),(some (64,true)),0⟩,
⟨(some 67),(.a (.bslice 3 1 7 [(.int .i64 (.ofNat 0))] [(0,(.c (.int .i64 (.ofNat 0)))),(1,(.c (.int .i64 (.ofNat 1)))),(2,(.c (.int .i64 (.ofNat 2)))),(3,(.c (.int .i64 (.ofNat 3)))),(4,(.c (.int .i64 (.ofNat 4)))),(5,(.c (.int .i64 (.ofNat 6)))),(6,(.c (.int .i64 (.ofNat 5))))])),(some (64,true)),0⟩,
⟨(some 68),(.x (.call (.c (.fn 17 [] [])) [(.t 66),(.t 67)])),(some (64,true)),0⟩,
⟨(some 69),(.q (.pick (.t 64) (.t 68) (.c (.bool false)))),none,0⟩,
⟨(some 0),(.q (.mv (.t 69))),none,0⟩])
.ret)))))⟩
theorem row8 : Row Try.prog (8, a8) := ⟨Try.f8, Try.func8, by kernel_rfl⟩
noncomputable def a9 : AFn :=
⟨21,[(.cell 4 true 6),(.t 5)],(.seq (.reg [⟨(some 2),(.a (.box 25 (.t 0))),none,0⟩,
⟨(some 4),(.a (.alloc 30 [(.int .i64 (.ofNat 0)),.nilsl,.nilsl,.nilsl,.nilsl,.nilsl])),none,0⟩,
⟨(some 5),(.q (.mv (.c (.int .i64 (.ofNat 0))))),none,0⟩])
(.seq (.reg [⟨(some 9),(.q (.ld true 3 (.t 2))),none,0⟩,
⟨(some 10),(.q (.mv (.t 1))),none,0⟩,
⟨(some 11),(.x (.call (.c (.fn 32 [] [])) [(.t 9),(.t 10)])),none,0⟩,
⟨(some 8),(.q (.mv (.t 11))),none,0⟩,
⟨(some 12),(.q (.extract (.t 8) 0)),none,0⟩,
⟨(some 13),(.q (.extract (.t 8) 1)),none,0⟩,
⟨(some 6),(.a (.alloc 75 [.nilsl,.nilsl])),none,0⟩,
⟨none,(.x (.st 2 (.t 6) (.t 12))),none,0⟩,
⟨(some 7),(.q (.mv (.t 13))),none,0⟩])
(.seq (.seq (.reg [⟨(some 14),(.q (.mv (.t 7))),none,0⟩,
⟨(some 15),(.q (.bin .neq (.p .int) (.t 14) (.c (.int .i64 (.ofNat 0))))),none,0⟩])
(.cond (.t 15) (.seq (.reg [⟨(some 16),(.q (.build [(.int .i64 (.ofNat 0)),.nilsl,.nilsl,.nilsl,.nilsl,.nilsl] [])),none,0⟩,
⟨(some 17),(.q (.mv (.t 7))),none,0⟩,
⟨none,(.x (.st 6 (.t 4) (.t 16))),none,0⟩,
⟨(some 5),(.q (.mv (.t 17))),none,0⟩])
.ret) .skip))
(.seq (.reg [⟨(some 18),(.q (.ld true 2 (.t 6))),none,0⟩,
⟨(some 19),(.q (.ld true 3 (.t 2))),none,0⟩,
⟨(some 20),(.x (.call (.c (.fn 33 [] [])) [(.t 18),(.t 19)])),none,0⟩,
⟨none,(.x (.st 6 (.t 4) (.t 20))),none,0⟩,
⟨(some 5),(.q (.mv (.c (.int .i64 (.ofNat 0))))),none,0⟩])
.ret))))⟩
theorem row9 : Row Try.prog (9, a9) := ⟨Try.f9, Try.func9, by kernel_rfl⟩
noncomputable def a17 : AFn :=
⟨26,[(.t 4)],(.seq (.reg [⟨(some 4),(.q (.mv (.c (.bool false)))),none,0⟩])
(.seq (.seq (.reg [⟨(some 6),(.q (.mv (.t 0))),none,0⟩,
⟨(some 7),(.q (.lenSl (.t 6))),none,0⟩,
⟨(some 8),(.q (.mv (.t 1))),none,0⟩,
⟨(some 9),(.q (.lenSl (.t 8))),none,0⟩,
⟨(some 10),(.q (.bin .neq (.p .int) (.t 7) (.t 9))),none,0⟩])
(.cond (.t 10) (.seq (.reg [⟨(some 4),(.q (.mv (.c (.bool false)))),none,0⟩])
.ret) .skip))
(.seq (.seq (.reg [⟨(some 5),(.q (.mv (.c (.int .i64 (.ofNat 0))))),none,0⟩])
(.block 0 (.loop (.seq (.seq (.reg [⟨(some 11),(.q (.mv (.t 5))),none,0⟩,
⟨(some 12),(.q (.mv (.t 0))),none,0⟩,
⟨(some 13),(.q (.lenSl (.t 12))),none,0⟩,
⟨(some 14),(.q (.bin .lss (.p .int) (.t 11) (.t 13))),none,0⟩])
(.cond (.t 14) .skip (.exit 0)))
(.seq (.block 1 (.seq (.drw [⟨(some 17),(.q (.mv (.t 0))),none,0⟩,
⟨(some 18),(.q (.mv (.t 5))),none,0⟩,
⟨(some 19),(.q (.iaddr (.slice 1) (.t 17) (.t 18))),none,3⟩,
⟨(some 20),(.q (.ld false 1 (.t 19))),none,7⟩,
⟨(some 21),(.q (.mv (.t 1))),none,0⟩,
⟨(some 22),(.q (.mv (.t 5))),none,0⟩,
⟨(some 23),(.q (.iaddr (.slice 1) (.t 21) (.t 22))),none,48⟩,
⟨(some 24),(.q (.ld false 1 (.t 23))),none,112⟩,
⟨(some 25),(.q (.bin .neq (.p .int) (.t 20) (.t 24))),none,255⟩])
(.cond (.t 25) (.seq (.reg [⟨(some 4),(.q (.mv (.c (.bool false)))),none,0⟩])
.ret) .skip)))
(.reg [⟨(some 15),(.q (.mv (.t 5))),none,0⟩,
⟨(some 16),(.q (.bin .add (.p .int) (.t 15) (.c (.int .i64 (.ofNat 1))))),none,0⟩,
⟨(some 5),(.q (.mv (.t 16))),none,0⟩]))))))
(.seq (.reg [⟨(some 4),(.q (.mv (.c (.bool true)))),none,0⟩])
.ret))))⟩
theorem row17 : Row Try.prog (17, a17) := ⟨Try.f17, Try.func17, by kernel_rfl⟩
noncomputable def a19 : AFn :=
⟨47,[(.cell 2 true 3)],(.seq (.reg [⟨(some 1),(.a (.box 54 (.t 0))),none,0⟩,
⟨(some 2),(.a (.alloc 25 [(.int .i64 (.ofNat 0)),.nilsl,.nilsl])),none,0⟩])
(.seq (.reg [⟨(some 6),(.q (.build [(.int .i64 (.ofNat 0)),(.int .i64 (.ofNat 0))] [(1,1,(.c (.int .i64 (.ofNat 2))))])),none,0⟩,
⟨(some 7),(.q (.build [(.int .i64 (.ofNat 0)),(.int .i64 (.ofNat 0))] [(1,1,(.c (.int .i64 (.ofNat 2))))])),none,0⟩,
⟨(some 8),(.a (.bslice 46 2 2 [(.int .i64 (.ofNat 0)),(.int .i64 (.ofNat 0))] [(0,(.t 6)),(1,(.t 7))])),none,0⟩,
⟨(some 9),(.a (.bslice 3 1 2 [(.int .i64 (.ofNat 0))] [(0,(.c (.int .i64 (.ofNat 1)))),(1,(.c (.int .i64 (.ofNat 4))))])),none,0⟩,
⟨(some 10),(.a (.bslice 3 1 2 [(.int .i64 (.ofNat 0))] [(0,(.c (.int .i64 (.ofNat 1)))),(1,(.c (.int .i64 (.ofNat 1))))])),none,0⟩,
⟨(some 11),(.q (.build [(.int .i64 (.ofNat 0)),(.int .i64 (.ofNat 0)),(.int .i64 (.ofNat 0)),.nilsl,.nilsl,.nilsl] [(0,1,(.c (.int .i64 (.ofNat 1)))),(3,1,(.t 9)),(4,1,(.t 10))])),none,0⟩,
⟨(some 12),(.a (.bslice 56 6 1 [(.int .i64 (.ofNat 0)),(.int .i64 (.ofNat 0)),(.int .i64 (.ofNat 0)),.nilsl,.nilsl,.nilsl] [(0,(.t 11))])),none,0⟩,
⟨(some 13),(.q (.build [(.int .i64 (.ofNat 0)),.nilsl,.nilsl] [(0,1,(.c (.int .i64 (.ofNat 1)))),(2,1,(.t 8)),(1,1,(.t 12))])),none,0⟩,
⟨(some 3),(.a (.alloc 25 [(.int .i64 (.ofNat 0)),.nilsl,.nilsl])),none,0⟩,
⟨none,(.x (.st 3 (.t 3) (.t 13))),none,0⟩])
(.seq (.seq (.reg [⟨(some 4),(.q (.mv (.c (.int .i64 (.ofNat 0))))),none,0⟩])
(.block 0 (.loop (.seq (.seq (.reg [⟨(some 14),(.q (.mv (.t 4))),none,0⟩,
⟨(some 15),(.q (.bin .lss (.p .int) (.t 14) (.c (.int .i64 (.ofNat 2))))),none,0⟩])
(.cond (.t 15) .skip (.exit 0)))
(.seq (.block 1 (.seq (.reg [⟨(some 18),(.q (.mv (.t 4))),none,0⟩,
⟨(some 19),(.q (.bin .mul (.p .int) (.c (.int .i64 (.ofNat 3))) (.t 18))),none,0⟩,
⟨(some 20),(.q (.bin .add (.p .int) (.c (.int .i64 (.ofNat 1))) (.t 19))),none,0⟩,
⟨(some 5),(.q (.mv (.t 20))),none,0⟩])
(.drw [⟨(some 21),(.q (.faddr 1 (.t 3))),none,0⟩,
⟨(some 22),(.q (.ld false 1 (.t 21))),none,1⟩,
⟨(some 23),(.q (.mv (.t 4))),none,0⟩,
⟨(some 24),(.q (.mv (.t 5))),none,0⟩,
⟨(some 25),(.q (.bin .add (.p .int) (.t 24) (.c (.int .i64 (.ofNat 1))))),none,8⟩,
⟨(some 26),(.q (.mv (.t 5))),none,0⟩,
⟨(some 27),(.q (.bin .add (.p .int) (.t 26) (.c (.int .i64 (.ofNat 2))))),none,32⟩,
⟨(some 28),(.a (.bslice 3 1 2 [(.int .i64 (.ofNat 0))] [(0,(.t 25)),(1,(.t 27))])),none,120⟩,
⟨(some 29),(.q (.build [(.int .i64 (.ofNat 0)),(.int .i64 (.ofNat 0)),(.int .i64 (.ofNat 0)),.nilsl,.nilsl,.nilsl] [(0,1,(.c (.int .i64 (.ofNat 2)))),(2,1,(.t 23)),(3,1,(.t 28))])),none,252⟩,
⟨(some 30),(.q (.mv (.t 4))),none,0⟩,
⟨(some 31),(.q (.bin .mul (.p .int) (.c (.int .i64 (.ofNat 2))) (.t 30))),none,512⟩,
⟨(some 32),(.q (.iaddr (.arr 4 1) (.t 1) (.t 31))),none,1536⟩,
⟨(some 33),(.q (.ld false 1 (.t 32))),none,3584⟩,
⟨(some 34),(.a (.bslice 3 1 1 [(.int .i64 (.ofNat 0))] [(0,(.t 33))])),none,7680⟩,
⟨(some 35),(.q (.build [(.int .i64 (.ofNat 0)),(.int .i64 (.ofNat 0)),(.int .i64 (.ofNat 0)),.nilsl,.nilsl,.nilsl] [(0,1,(.c (.int .i64 (.ofNat 3)))),(5,1,(.t 34))])),none,15872⟩,
⟨(some 36),(.q (.mv (.t 4))),none,0⟩,
⟨(some 37),(.q (.bin .mul (.p .int) (.c (.int .i64 (.ofNat 2))) (.t 36))),none,32768⟩,
⟨(some 38),(.q (.bin .add (.p .int) (.t 37) (.c (.int .i64 (.ofNat 1))))),none,98304⟩,
⟨(some 39),(.q (.iaddr (.arr 4 1) (.t 1) (.t 38))),none,229376⟩,
⟨(some 40),(.q (.ld false 1 (.t 39))),none,491520⟩,
⟨(some 41),(.a (.bslice 3 1 1 [(.int .i64 (.ofNat 0))] [(0,(.t 40))])),none,1015808⟩,
⟨(some 42),(.q (.build [(.int .i64 (.ofNat 0)),(.int .i64 (.ofNat 0)),(.int .i64 (.ofNat 0)),.nilsl,.nilsl,.nilsl] [(0,1,(.c (.int .i64 (.ofNat 3)))),(5,1,(.t 41))])),none,2064384⟩,
⟨(some 43),(.a (.bslice 56 6 3 [(.int .i64 (.ofNat 0)),(.int .i64 (.ofNat 0)),(.int .i64 (.ofNat 0)),.nilsl,.nilsl,.nilsl] [(0,(.t 29)),(1,(.t 35)),(2,(.t 42))])),none,4194300⟩,
⟨(some 44),(.x (.app 56 6 96 (.t 22) (.t 43))),none,8388607⟩,
⟨(some 45),(.q (.faddr 1 (.t 3))),none,16777215⟩,
⟨none,(.x (.st 1 (.t 45) (.t 44))),none,33554431⟩])))
(.reg [⟨(some 16),(.q (.mv (.t 4))),none,0⟩,
⟨(some 17),(.q (.bin .add (.p .int) (.t 16) (.c (.int .i64 (.ofNat 1))))),none,0⟩,
⟨(some 4),(.q (.mv (.t 17))),none,0⟩]))))))
(.seq (.reg [⟨(some 46),(.q (.ld true 3 (.t 3))),none,0⟩,
⟨none,(.x (.st 3 (.t 2) (.t 46))),none,0⟩])
.ret))))⟩
theorem row19 : Row Try.prog (19, a19) := ⟨Try.f19, Try.func19, by kernel_rfl⟩
noncomputable def a20 : AFn :=
⟨7,[(.cell 2 true 3)],(.seq (.reg [⟨(some 2),(.a (.alloc 60 [(.bool false),.nilsl,.nilsl])),none,0⟩])
(.seq (.reg [⟨(some 3),(.q (.mv (.t 0))),none,0⟩,
⟨(some 4),(.a (.bslice 62 1 1 [(.int .u32 (.ofNat 0))] [(0,(.t 3))])),none,0⟩,
⟨(some 5),(.a (.bslice 62 1 1 [(.int .u32 (.ofNat 0))] [(0,(.c (.int .u32 (.ofNat 3))))])),none,0⟩,
⟨(some 6),(.q (.build [(.bool false),.nilsl,.nilsl] [(1,1,(.t 4)),(2,1,(.t 5))])),none,0⟩,
⟨none,(.x (.st 3 (.t 2) (.t 6))),none,0⟩])
.ret))⟩
theorem row20 : Row Try.prog (20, a20) := ⟨Try.f20, Try.func20, by kernel_rfl⟩
noncomputable def a21 : AFn :=
⟨70,[(.t 6),(.t 7)],(.seq (.reg [⟨(some 3),(.a (.box 25 (.t 0))),none,0⟩,
⟨(some 5),(.a (.box 65 (.t 2))),none,0⟩,
⟨(some 6),(.q (.mv (.c .nilsl))),none,0⟩,
⟨(some 7),(.q (.mv (.c (.int .i64 (.ofNat 0))))),none,0⟩])
(.seq (.reg [⟨(some 15),(.q (.ld true 3 (.t 3))),none,0⟩,
⟨(some 16),(.q (.mv (.t 1))),none,0⟩,
⟨(some 17),(.x (.call (.c (.fn 32 [] [])) [(.t 15),(.t 16)])),none,0⟩,
⟨(some 14),(.q (.mv (.t 17))),none,0⟩,
⟨(some 18),(.q (.extract (.t 14) 0)),none,0⟩,
⟨(some 19),(.q (.extract (.t 14) 1)),none,0⟩,
⟨(some 8),(.a (.alloc 75 [.nilsl,.nilsl])),none,0⟩,
⟨none,(.x (.st 2 (.t 8) (.t 18))),none,0⟩,
⟨(some 9),(.q (.mv (.t 19))),none,0⟩])
(.seq (.seq (.reg [⟨(some 20),(.q (.mv (.t 9))),none,0⟩,
⟨(some 21),(.q (.bin .neq (.p .int) (.t 20) (.c (.int .i64 (.ofNat 0))))),none,0⟩])
(.cond (.t 21) (.seq (.reg [⟨(some 22),(.q (.mv (.t 9))),none,0⟩,
⟨(some 6),(.q (.mv (.c .nilsl))),none,0⟩,
⟨(some 7),(.q (.mv (.t 22))),none,0⟩])
.ret) .skip))
(.seq (.reg [⟨(some 23),(.q (.ld true 2 (.t 8))),none,0⟩,
⟨(some 24),(.q (.ld true 3 (.t 3))),none,0⟩,
⟨(some 25),(.x (.call (.c (.fn 33 [] [])) [(.t 23),(.t 24)])),none,0⟩,
⟨(some 10),(.a (.alloc 30 [(.int .i64 (.ofNat 0)),.nilsl,.nilsl,.nilsl,.nilsl,.nilsl])),none,0⟩,
⟨none,(.x (.st 6 (.t 10) (.t 25))),none,0⟩])
(.seq (.seq (.reg [⟨(some 26),(.q (.faddr 0 (.t 10))),none,0⟩,
⟨(some 27),(.q (.faddr 2 (.t 26))),none,0⟩,
⟨(some 28),(.q (.ld false 1 (.t 27))),none,0⟩,
⟨(some 29),(.q (.ld false 1 (.t 5))),none,0⟩,
⟨(some 30),(.x (.call (.c (.fn 46 [] [])) [(.t 28),(.t 29)])),none,0⟩,
⟨(some 31),(.q (.un .not (.t 30))),none,0⟩])
(.cond (.t 31) (.seq (.reg [⟨(some 6),(.q (.mv (.c .nilsl))),none,0⟩,
⟨(some 7),(.q (.mv (.c (.int .i64 (.ofNat 10))))),none,0⟩])
.ret) .skip))
(.seq (.reg [⟨(some 32),(.q (.faddr 2 (.t 3))),none,0⟩,
⟨(some 33),(.q (.ld false 1 (.t 32))),none,0⟩,
⟨(some 34),(.q (.lenSl (.t 33))),none,0⟩,
⟨(some 35),(.a (.mkSlice 63 1 24 [.nilsl] (.t 34) (.t 34))),none,0⟩,
⟨(some 11),(.a (.alloc 65 [.nilsl])),none,0⟩,
⟨none,(.x (.st 1 (.t 11) (.t 35))),none,0⟩])
(.seq (.seq (.reg [⟨(some 36),(.q (.faddr 2 (.t 3))),none,0⟩,
⟨(some 37),(.q (.ld false 1 (.t 36))),none,0⟩,
⟨(some 38),(.x (.call (.c (.fn 47 [] [])) [(.t 37)])),none,0⟩])
(.block 0 (.rng (.t 38) [39,40] (.seq (.reg [⟨(some 12),(.q (.mv (.t 39))),none,0⟩])
(.reg [⟨(some 13),(.q (.mv (.t 40))),none,0⟩])) (.block 1 (.drw [⟨(some 41),(.q (.ld false 1 (.t 11))),none,0⟩,
⟨(some 42),(.q (.mv (.t 12))),none,0⟩,
⟨(some 43),(.q (.ld false 1 (.t 11))),none,0⟩,
⟨(some 44),(.q (.mv (.t 12))),none,0⟩,
⟨(some 45),(.q (.iaddr (.slice 1) (.t 43) (.t 44))),none,12⟩,
⟨(some 46),(.q (.ld false 1 (.t 45))),none,28⟩,
⟨(some 47),(.q (.ld false 1 (.t 5))),none,0⟩,
⟨(some 48),(.q (.faddr 3 (.t 10))),none,0⟩,
⟨(some 49),(.q (.ld false 1 (.t 48))),none,128⟩,
⟨(some 50),(.q (.mv (.t 12))),none,0⟩,
⟨(some 51),(.q (.iaddr (.slice 1) (.t 49) (.t 50))),none,896⟩,
⟨(some 52),(.q (.ld false 1 (.t 51))),none,1920⟩,
⟨(some 53),(.q (.iaddr (.slice 1) (.t 47) (.t 52))),none,4032⟩,
⟨(some 54),(.q (.ld false 1 (.t 53))),none,8128⟩,
⟨(some 55),(.q (.faddr 4 (.t 10))),none,0⟩,
⟨(some 56),(.q (.ld false 1 (.t 55))),none,16384⟩,
⟨(some 57),(.q (.mv (.t 12))),none,0⟩,
⟨(some 58),(.q (.iaddr (.slice 1) (.t 56) (.t 57))),none,114688⟩,
⟨(some 59),(.q (.ld false 1 (.t 58))),none,245760⟩,
⟨(some 60),(.q (.mv (.t 13))),none,0⟩,
⟨(some 61),(.q (.iaddr (.slice 1) (.t 59) (.t 60))),none,1032192⟩,
⟨(some 62),(.q (.ld false 1 (.t 61))),none,2080768⟩,
⟨(some 63),(.q (.iaddr (.slice 3) (.t 54) (.t 62))),none,4194240⟩,
⟨(some 64),(.q (.ld true 3 (.t 63))),none,8388544⟩,
⟨(some 65),(.x (.call (.c (.fn 48 [] [])) [(.t 64)])),none,16777152⟩,
⟨(some 66),(.a (.bslice 60 3 1 [(.bool false),.nilsl,.nilsl] [(0,(.t 65))])),none,33554368⟩,
⟨(some 67),(.x (.app 60 3 56 (.t 46) (.t 66))),none,67108860⟩,
⟨(some 68),(.q (.iaddr (.slice 1) (.t 41) (.t 42))),none,134217727⟩,
⟨none,(.x (.st 1 (.t 68) (.t 67))),none,268435455⟩])))))
(.seq (.reg [⟨(some 69),(.q (.ld false 1 (.t 11))),none,0⟩,
⟨(some 6),(.q (.mv (.t 69))),none,0⟩,
⟨(some 7),(.q (.mv (.c (.int .i64 (.ofNat 0))))),none,0⟩])
.ret))))))))⟩
theorem row21 : Row Try.prog (21, a21) := ⟨Try.f21, Try.func21, by kernel_rfl⟩
noncomputable def a22 : AFn :=
⟨79,[(.t 6),(.t 7)],(.seq (.reg [⟨(some 3),(.a (.box 25 (.t 0))),none,0⟩,
⟨(some 5),(.a (.box 65 (.t 2))),none,0⟩,
⟨(some 6),(.q (.mv (.c .nilsl))),none,0⟩,
⟨(some 7),(.q (.mv (.c (.int .i64 (.ofNat 0))))),none,0⟩])
(.seq (.reg [⟨(some 15),(.q (.ld true 3 (.t 3))),none,0⟩,
⟨(some 16),(.q (.mv (.t 1))),none,0⟩,
⟨(some 17),(.x (.call (.c (.fn 32 [] [])) [(.t 15),(.t 16)])),none,0⟩,
⟨(some 14),(.q (.mv (.t 17))),none,0⟩,
⟨(some 18),(.q (.extract (.t 14) 0)),none,0⟩,
⟨(some 19),(.q (.extract (.t 14) 1)),none,0⟩,
⟨(some 8),(.a (.alloc 75 [.nilsl,.nilsl])),none,0⟩,
⟨none,(.x (.st 2 (.t 8) (.t 18))),none,0⟩,
⟨(some 9),(.q (.mv (.t 19))),none,0⟩])
(.seq (.seq (.reg [⟨(some 20),(.q (.mv (.t 9))),none,0⟩,
⟨(some 21),(.q (.bin .neq (.p .int) (.t 20) (.c (.int .i64 (.ofNat 0))))),none,0⟩])
(.cond (.t 21) (.seq (.reg [⟨(some 22),(.q (.mv (.t 9))),none,0⟩,
⟨(some 6),(.q (.mv (.c .nilsl))),none,0⟩,
⟨(some 7),(.q (.mv (.t 22))),none,0⟩])
.ret) .skip))
(.seq (.seq (.reg [⟨(some 23),(.q (.faddr 2 (.t 3))),none,0⟩,
⟨(some 24),(.q (.ld false 1 (.t 23))),none,0⟩,
⟨(some 25),(.q (.ld false 1 (.t 5))),none,0⟩,
⟨(some 26),(.x (.call (.c (.fn 46 [] [])) [(.t 24),(.t 25)])),none,0⟩,
⟨(some 27),(.q (.un .not (.t 26))),none,0⟩])
(.cond (.t 27) (.seq (.reg [⟨(some 6),(.q (.mv (.c .nilsl))),none,0⟩,
⟨(some 7),(.q (.mv (.c (.int .i64 (.ofNat 10))))),none,0⟩])
.ret) .skip))
(.seq (.seq (.reg [⟨(some 28),(.q (.ld true 2 (.t 8))),none,0⟩,
⟨(some 29),(.q (.ld true 3 (.t 3))),none,0⟩,
⟨(some 30),(.q (.ld false 1 (.t 5))),none,0⟩,
⟨(some 31),(.x (.call (.c (.fn 49 [] [])) [(.t 28),(.t 29),(.t 30)])),none,0⟩,
⟨(some 32),(.q (.un .not (.t 31))),none,0⟩])
(.cond (.t 32) (.seq (.reg [⟨(some 6),(.q (.mv (.c .nilsl))),none,0⟩,
⟨(some 7),(.q (.mv (.c (.int .i64 (.ofNat 18))))),none,0⟩])
.ret) .skip))
(.seq (.reg [⟨(some 33),(.q (.ld true 2 (.t 8))),none,0⟩,
⟨(some 34),(.q (.ld true 3 (.t 3))),none,0⟩,
⟨(some 35),(.x (.call (.c (.fn 33 [] [])) [(.t 33),(.t 34)])),none,0⟩,
⟨(some 10),(.a (.alloc 30 [(.int .i64 (.ofNat 0)),.nilsl,.nilsl,.nilsl,.nilsl,.nilsl])),none,0⟩,
⟨none,(.x (.st 6 (.t 10) (.t 35))),none,0⟩])
(.seq (.reg [⟨(some 36),(.q (.faddr 0 (.t 10))),none,0⟩,
⟨(some 37),(.q (.faddr 2 (.t 36))),none,0⟩,
⟨(some 38),(.q (.ld false 1 (.t 37))),none,0⟩,
⟨(some 39),(.q (.lenSl (.t 38))),none,0⟩,
⟨(some 40),(.a (.mkSlice 63 1 24 [.nilsl] (.t 39) (.t 39))),none,0⟩,
⟨(some 11),(.a (.alloc 65 [.nilsl])),none,0⟩,
⟨none,(.x (.st 1 (.t 11) (.t 40))),none,0⟩])
(.seq (.seq (.reg [⟨(some 41),(.q (.faddr 2 (.t 3))),none,0⟩,
⟨(some 42),(.q (.ld false 1 (.t 41))),none,0⟩,
⟨(some 43),(.x (.call (.c (.fn 47 [] [])) [(.t 42)])),none,0⟩])
(.block 0 (.rng (.t 43) [44,45] (.seq (.reg [⟨(some 12),(.q (.mv (.t 44))),none,0⟩])
(.reg [⟨(some 13),(.q (.mv (.t 45))),none,0⟩])) (.block 1 (.seq (.reg [⟨(some 46),(.q (.faddr 0 (.t 8))),none,0⟩,
⟨(some 47),(.q (.ld false 1 (.t 46))),none,0⟩,
⟨(some 48),(.q (.mv (.t 12))),none,0⟩,
⟨(some 49),(.q (.iaddr (.slice 1) (.t 47) (.t 48))),none,0⟩,
⟨(some 50),(.q (.ld false 1 (.t 49))),none,0⟩,
⟨(some 51),(.q (.mv (.t 12))),none,0⟩,
⟨(some 52),(.q (.bin .eql (.p .int) (.t 50) (.t 51))),none,0⟩])
(.cond (.t 52) (.drw [⟨(some 53),(.q (.ld false 1 (.t 11))),none,0⟩,
⟨(some 54),(.q (.faddr 3 (.t 10))),none,0⟩,
⟨(some 55),(.q (.ld false 1 (.t 54))),none,2⟩,
⟨(some 56),(.q (.mv (.t 12))),none,0⟩,
⟨(some 57),(.q (.iaddr (.slice 1) (.t 55) (.t 56))),none,14⟩,
⟨(some 58),(.q (.ld false 1 (.t 57))),none,30⟩,
⟨(some 59),(.q (.ld false 1 (.t 11))),none,0⟩,
⟨(some 60),(.q (.faddr 3 (.t 10))),none,0⟩,
⟨(some 61),(.q (.ld false 1 (.t 60))),none,128⟩,
⟨(some 62),(.q (.mv (.t 12))),none,0⟩,
⟨(some 63),(.q (.iaddr (.slice 1) (.t 61) (.t 62))),none,896⟩,
⟨(some 64),(.q (.ld false 1 (.t 63))),none,1920⟩,
⟨(some 65),(.q (.iaddr (.slice 1) (.t 59) (.t 64))),none,4032⟩,
⟨(some 66),(.q (.ld false 1 (.t 65))),none,8128⟩,
⟨(some 67),(.q (.ld false 1 (.t 5))),none,0⟩,
⟨(some 68),(.q (.mv (.t 12))),none,0⟩,
⟨(some 69),(.q (.iaddr (.slice 1) (.t 67) (.t 68))),none,49152⟩,
⟨(some 70),(.q (.ld false 1 (.t 69))),none,114688⟩,
⟨(some 71),(.q (.mv (.t 13))),none,0⟩,
⟨(some 72),(.q (.iaddr (.slice 3) (.t 70) (.t 71))),none,507904⟩,
⟨(some 73),(.q (.ld true 3 (.t 72))),none,1032192⟩,
⟨(some 74),(.x (.call (.c (.fn 48 [] [])) [(.t 73)])),none,2080768⟩,
⟨(some 75),(.a (.bslice 60 3 1 [(.bool false),.nilsl,.nilsl] [(0,(.t 74))])),none,4177920⟩,
⟨(some 76),(.x (.app 60 3 56 (.t 66) (.t 75))),none,8388544⟩,
⟨(some 77),(.q (.iaddr (.slice 1) (.t 53) (.t 58))),none,16777215⟩,
⟨none,(.x (.st 1 (.t 77) (.t 76))),none,33554431⟩]) .skip))))))
(.seq (.reg [⟨(some 78),(.q (.ld false 1 (.t 11))),none,0⟩,
⟨(some 6),(.q (.mv (.t 78))),none,0⟩,
⟨(some 7),(.q (.mv (.c (.int .i64 (.ofNat 0))))),none,0⟩])
.ret)))))))))⟩
theorem row22 : Row Try.prog (22, a22) := ⟨Try.f22, Try.func22, by kernel_rfl⟩
noncomputable def a23 : AFn :=
⟨11,[(.cell 2 true 3)],(.seq (.reg [⟨(some 2),(.a (.alloc 60 [(.bool false),.nilsl,.nilsl])),none,0⟩])
(.seq (.seq (.reg [⟨(some 3),(.q (.mv (.t 0))),none,0⟩,
⟨(some 4),(.q (.bin .eql (.p .int) (.t 3) (.c (.int .u32 (.ofNat 0))))),none,0⟩])
(.cond (.t 4) (.seq (.reg [⟨(some 5),(.a (.bslice 62 1 1 [(.int .u32 (.ofNat 0))] [(0,(.c (.int .u32 (.ofNat 1))))])),none,0⟩,
⟨(some 6),(.q (.build [(.bool false),.nilsl,.nilsl] [(2,1,(.t 5))])),none,0⟩,
⟨none,(.x (.st 3 (.t 2) (.t 6))),none,0⟩])
.ret) .skip))
(.seq (.reg [⟨(some 7),(.q (.mv (.t 0))),none,0⟩,
⟨(some 8),(.a (.bslice 62 1 1 [(.int .u32 (.ofNat 0))] [(0,(.t 7))])),none,0⟩,
⟨(some 9),(.a (.bslice 62 1 1 [(.int .u32 (.ofNat 0))] [(0,(.c (.int .u32 (.ofNat 1))))])),none,0⟩,
⟨(some 10),(.q (.build [(.bool false),.nilsl,.nilsl] [(1,1,(.t 8)),(2,1,(.t 9))])),none,0⟩,
⟨none,(.x (.st 3 (.t 2) (.t 10))),none,0⟩])
.ret)))⟩
theorem row23 : Row Try.prog (23, a23) := ⟨Try.f23, Try.func23, by kernel_rfl⟩
noncomputable def a24 : AFn :=
⟨28,[(.t 6),(.t 7)],(.seq (.reg [⟨(some 3),(.a (.box 25 (.t 0))),none,0⟩,
⟨(some 6),(.q (.mv (.c (.bool false)))),none,0⟩,
⟨(some 7),(.q (.mv (.c (.int .i64 (.ofNat 0))))),none,0⟩])
(.seq (.reg [⟨(some 11),(.q (.ld true 3 (.t 3))),none,0⟩,
⟨(some 12),(.q (.mv (.t 1))),none,0⟩,
⟨(some 13),(.x (.call (.c (.fn 32 [] [])) [(.t 11),(.t 12)])),none,0⟩,
⟨(some 10),(.q (.mv (.t 13))),none,0⟩,
⟨(some 14),(.q (.extract (.t 10) 0)),none,0⟩,
⟨(some 15),(.q (.extract (.t 10) 1)),none,0⟩,
⟨(some 8),(.a (.alloc 75 [.nilsl,.nilsl])),none,0⟩,
⟨none,(.x (.st 2 (.t 8) (.t 14))),none,0⟩,
⟨(some 9),(.q (.mv (.t 15))),none,0⟩])
(.seq (.seq (.reg [⟨(some 16),(.q (.mv (.t 9))),none,0⟩,
⟨(some 17),(.q (.bin .neq (.p .int) (.t 16) (.c (.int .i64 (.ofNat 0))))),none,0⟩])
(.cond (.t 17) (.seq (.reg [⟨(some 18),(.q (.mv (.t 9))),none,0⟩,
⟨(some 6),(.q (.mv (.c (.bool false)))),none,0⟩,
⟨(some 7),(.q (.mv (.t 18))),none,0⟩])
.ret) .skip))
(.seq (.seq (.reg [⟨(some 19),(.q (.faddr 2 (.t 3))),none,0⟩,
⟨(some 20),(.q (.ld false 1 (.t 19))),none,0⟩,
⟨(some 21),(.q (.mv (.t 2))),none,0⟩,
⟨(some 22),(.x (.call (.c (.fn 46 [] [])) [(.t 20),(.t 21)])),none,0⟩,
⟨(some 23),(.q (.un .not (.t 22))),none,0⟩])
(.cond (.t 23) (.seq (.reg [⟨(some 6),(.q (.mv (.c (.bool false)))),none,0⟩,
⟨(some 7),(.q (.mv (.c (.int .i64 (.ofNat 10))))),none,0⟩])
.ret) .skip))
(.seq (.reg [⟨(some 24),(.q (.ld true 2 (.t 8))),none,0⟩,
⟨(some 25),(.q (.ld true 3 (.t 3))),none,0⟩,
⟨(some 26),(.q (.mv (.t 2))),none,0⟩,
⟨(some 27),(.x (.call (.c (.fn 49 [] [])) [(.t 24),(.t 25),(.t 26)])),none,0⟩,
⟨(some 6),(.q (.mv (.t 27))),none,0⟩,
⟨(some 7),(.q (.mv (.c (.int .i64 (.ofNat 0))))),none,0⟩])
.ret)))))⟩
theorem row24 : Row Try.prog (24, a24) := ⟨Try.f24, Try.func24, by kernel_rfl⟩
noncomputable def a25 : AFn :=
⟨54,[(.t 4)],(.seq (.reg [⟨(some 4),(.q (.mv (.c (.bool false)))),none,0⟩])
(.seq (.seq (.reg [⟨(some 7),(.q (.mv (.t 0))),none,0⟩,
⟨(some 8),(.q (.lenSl (.t 7))),none,0⟩,
⟨(some 9),(.q (.mv (.t 1))),none,0⟩,
⟨(some 10),(.q (.lenSl (.t 9))),none,0⟩,
⟨(some 11),(.q (.bin .neq (.p .int) (.t 8) (.t 10))),none,0⟩])
(.cond (.t 11) (.seq (.reg [⟨(some 4),(.q (.mv (.c (.bool false)))),none,0⟩])
.ret) .skip))
(.seq (.seq (.reg [⟨(some 5),(.q (.mv (.c (.int .i64 (.ofNat 0))))),none,0⟩])
(.block 0 (.loop (.seq (.seq (.reg [⟨(some 12),(.q (.mv (.t 5))),none,0⟩,
⟨(some 13),(.q (.mv (.t 0))),none,0⟩,
⟨(some 14),(.q (.lenSl (.t 13))),none,0⟩,
⟨(some 15),(.q (.bin .lss (.p .int) (.t 12) (.t 14))),none,0⟩])
(.cond (.t 15) .skip (.exit 0)))
(.seq (.block 1 (.seq (.seq (.drw [⟨(some 18),(.q (.mv (.t 0))),none,0⟩,
⟨(some 19),(.q (.mv (.t 5))),none,0⟩,
⟨(some 20),(.q (.iaddr (.slice 1) (.t 18) (.t 19))),none,3⟩,
⟨(some 21),(.q (.ld false 1 (.t 20))),none,7⟩,
⟨(some 22),(.q (.lenSl (.t 21))),none,15⟩,
⟨(some 23),(.q (.mv (.t 1))),none,0⟩,
⟨(some 24),(.q (.mv (.t 5))),none,0⟩,
⟨(some 25),(.q (.iaddr (.slice 1) (.t 23) (.t 24))),none,96⟩,
⟨(some 26),(.q (.ld false 1 (.t 25))),none,224⟩,
⟨(some 27),(.q (.lenSl (.t 26))),none,480⟩,
⟨(some 28),(.q (.bin .neq (.p .int) (.t 22) (.t 27))),none,1023⟩])
(.cond (.t 28) (.seq (.reg [⟨(some 4),(.q (.mv (.c (.bool false)))),none,0⟩])
.ret) .skip))
(.seq (.reg [⟨(some 6),(.q (.mv (.c (.int .i64 (.ofNat 0))))),none,0⟩])
(.block 2 (.loop (.seq (.seq (.reg [⟨(some 29),(.q (.mv (.t 6))),none,0⟩,
⟨(some 30),(.q (.mv (.t 0))),none,0⟩,
⟨(some 31),(.q (.mv (.t 5))),none,0⟩,
⟨(some 32),(.q (.iaddr (.slice 1) (.t 30) (.t 31))),none,0⟩,
⟨(some 33),(.q (.ld false 1 (.t 32))),none,0⟩,
⟨(some 34),(.q (.lenSl (.t 33))),none,0⟩,
⟨(some 35),(.q (.bin .lss (.p .int) (.t 29) (.t 34))),none,0⟩])
(.cond (.t 35) .skip (.exit 2)))
(.seq (.block 3 (.seq (.drw [⟨(some 38),(.q (.mv (.t 0))),none,0⟩,
⟨(some 39),(.q (.mv (.t 5))),none,0⟩,
⟨(some 40),(.q (.iaddr (.slice 1) (.t 38) (.t 39))),none,3⟩,
⟨(some 41),(.q (.ld false 1 (.t 40))),none,7⟩,
⟨(some 42),(.q (.mv (.t 6))),none,0⟩,
⟨(some 43),(.q (.iaddr (.slice 3) (.t 41) (.t 42))),none,31⟩,
⟨(some 44),(.q (.ld true 3 (.t 43))),none,63⟩,
⟨(some 45),(.q (.mv (.t 1))),none,0⟩,
⟨(some 46),(.q (.mv (.t 5))),none,0⟩,
⟨(some 47),(.q (.iaddr (.slice 1) (.t 45) (.t 46))),none,384⟩,
⟨(some 48),(.q (.ld false 1 (.t 47))),none,896⟩,
⟨(some 49),(.q (.mv (.t 6))),none,0⟩,
⟨(some 50),(.q (.iaddr (.slice 3) (.t 48) (.t 49))),none,3968⟩,
⟨(some 51),(.q (.ld true 3 (.t 50))),none,8064⟩,
⟨(some 52),(.x (.call (.c (.fn 50 [] [])) [(.t 44),(.t 51)])),none,16383⟩,
⟨(some 53),(.q (.un .not (.t 52))),none,32767⟩])
(.cond (.t 53) (.seq (.reg [⟨(some 4),(.q (.mv (.c (.bool false)))),none,0⟩])
.ret) .skip)))
(.reg [⟨(some 36),(.q (.mv (.t 6))),none,0⟩,
⟨(some 37),(.q (.bin .add (.p .int) (.t 36) (.c (.int .i64 (.ofNat 1))))),none,0⟩,
⟨(some 6),(.q (.mv (.t 37))),none,0⟩]))))))))
(.reg [⟨(some 16),(.q (.mv (.t 5))),none,0⟩,
⟨(some 17),(.q (.bin .add (.p .int) (.t 16) (.c (.int .i64 (.ofNat 1))))),none,0⟩,
⟨(some 5),(.q (.mv (.t 17))),none,0⟩]))))))
(.seq (.reg [⟨(some 4),(.q (.mv (.c (.bool true)))),none,0⟩])
.ret))))⟩
theorem row25 : Row Try.prog (25, a25) := ⟨Try.f25, Try.func25, by kernel_rfl⟩
noncomputable def a31 : AFn :=
⟨27,[(.t 4)],(.seq (.reg [⟨(some 4),(.q (.mv (.c (.bool false)))),none,0⟩])
(.seq (.seq (.reg [⟨(some 6),(.q (.mv (.t 0))),none,0⟩,
⟨(some 7),(.q (.lenSl (.t 6))),none,0⟩,
⟨(some 8),(.q (.mv (.t 1))),none,0⟩,
⟨(some 9),(.q (.lenSl (.t 8))),none,0⟩,
⟨(some 10),(.q (.bin .neq (.p .int) (.t 7) (.t 9))),none,0⟩])
(.cond (.t 10) (.seq (.reg [⟨(some 4),(.q (.mv (.c (.bool false)))),none,0⟩])
.ret) .skip))
(.seq (.seq (.reg [⟨(some 5),(.q (.mv (.c (.int .i64 (.ofNat 0))))),none,0⟩])
(.block 0 (.loop (.seq (.seq (.reg [⟨(some 11),(.q (.mv (.t 5))),none,0⟩,
⟨(some 12),(.q (.mv (.t 0))),none,0⟩,
⟨(some 13),(.q (.lenSl (.t 12))),none,0⟩,
⟨(some 14),(.q (.bin .lss (.p .int) (.t 11) (.t 13))),none,0⟩])
(.cond (.t 14) .skip (.exit 0)))
(.seq (.block 1 (.seq (.drw [⟨(some 17),(.q (.mv (.t 0))),none,0⟩,
⟨(some 18),(.q (.mv (.t 5))),none,0⟩,
⟨(some 19),(.q (.iaddr (.slice 1) (.t 17) (.t 18))),none,3⟩,
⟨(some 20),(.q (.ld false 1 (.t 19))),none,7⟩,
⟨(some 21),(.q (.mv (.t 1))),none,0⟩,
⟨(some 22),(.q (.mv (.t 5))),none,0⟩,
⟨(some 23),(.q (.iaddr (.slice 1) (.t 21) (.t 22))),none,48⟩,
⟨(some 24),(.q (.ld false 1 (.t 23))),none,112⟩,
⟨(some 25),(.x (.call (.c (.fn 17 [] [])) [(.t 20),(.t 24)])),none,255⟩,
⟨(some 26),(.q (.un .not (.t 25))),none,511⟩])
(.cond (.t 26) (.seq (.reg [⟨(some 4),(.q (.mv (.c (.bool false)))),none,0⟩])
.ret) .skip)))
(.reg [⟨(some 15),(.q (.mv (.t 5))),none,0⟩,
⟨(some 16),(.q (.bin .add (.p .int) (.t 15) (.c (.int .i64 (.ofNat 1))))),none,0⟩,
⟨(some 5),(.q (.mv (.t 16))),none,0⟩]))))))
(.seq (.reg [⟨(some 4),(.q (.mv (.c (.bool true)))),none,0⟩])
.ret))))⟩
theorem row31 : Row Try.prog (31, a31) := ⟨Try.f31, Try.func31, by kernel_rfl⟩
noncomputable def a32 : AFn :=
⟨136,[(.cell 4 true 2),(.cell 5 false 1)],(.seq (.reg [⟨(some 2),(.a (.box 25 (.t 0))),none,0⟩,
⟨(some 4),(.a (.alloc 75 [.nilsl,.nilsl])),none,0⟩,
⟨(some 5),(.a (.alloc 31 [(.int .i64 (.ofNat 0))])),none,0⟩])
(.seq (.reg [⟨(some 25),(.q (.ld true 3 (.t 2))),none,0⟩,
⟨(some 26),(.q (.mv (.t 1))),none,0⟩,
⟨(some 27),(.x (.call (.c (.fn 56 [] [])) [(.t 25),(.t 26)])),none,0⟩,
⟨(some 24),(.q (.mv (.t 27))),none,0⟩,
⟨(some 28),(.q (.extract (.t 24) 0)),none,0⟩,
⟨(some 29),(.q (.extract (.t 24) 1)),none,0⟩,
⟨(some 30),(.q (.extract (.t 24) 2)),none,0⟩,
⟨(some 7),(.a (.alloc 28 [.nilsl])),none,0⟩,
⟨(some 6),(.q (.mv (.t 28))),none,0⟩,
⟨none,(.x (.st 1 (.t 7) (.t 29))),none,0⟩,
⟨(some 8),(.q (.mv (.t 30))),none,0⟩])
(.seq (.seq (.reg [⟨(some 31),(.q (.mv (.t 8))),none,0⟩,
⟨(some 32),(.q (.bin .neq (.p .int) (.t 31) (.c (.int .i64 (.ofNat 0))))),none,0⟩])
(.cond (.t 32) (.seq (.reg [⟨(some 33),(.q (.build [.nilsl,.nilsl] [])),none,0⟩,
⟨(some 34),(.q (.mv (.t 8))),none,0⟩,
⟨none,(.x (.st 2 (.t 4) (.t 33))),none,0⟩,
⟨none,(.x (.st 1 (.t 5) (.t 34))),none,0⟩])
.ret) .skip))
(.seq (.reg [⟨(some 35),(.a (.mkMap)),none,0⟩,
⟨(some 36),(.q (.build [.nilmap] [(0,1,(.t 35))])),none,0⟩,
⟨(some 37),(.a (.box 106 (.t 36))),none,0⟩,
⟨(some 9),(.a (.alloc 103 [.nilp])),none,0⟩,
⟨none,(.x (.st 1 (.t 9) (.t 37))),none,0⟩])
(.seq (.seq (.reg [⟨(some 38),(.q (.mv (.t 1))),none,0⟩,
⟨(some 39),(.q (.lenSl (.t 38))),none,0⟩,
⟨(some 40),(.q (.mv (.c (.int .i64 (.ofNat 0))))),none,0⟩])
(.block 0 (.loop (.seq (.reg [⟨(some 41),(.q (.bin .lss (.p .int) (.t 40) (.t 39))),none,0⟩])
(.seq (.cond (.t 41) .skip (.exit 0))
(.seq (.block 1 (.seq (.reg [⟨(some 42),(.q (.iaddr (.slice 1) (.t 38) (.t 40))),none,0⟩,
⟨(some 43),(.q (.ld false 1 (.t 42))),none,0⟩,
⟨(some 11),(.q (.mv (.t 43))),none,0⟩])
(.seq (.reg [⟨(some 45),(.q (.ld true 3 (.t 2))),none,0⟩,
⟨(some 46),(.q (.mv (.t 11))),none,0⟩,
⟨(some 47),(.x (.call (.c (.fn 57 [] [])) [(.t 45),(.t 46)])),none,0⟩,
⟨(some 44),(.q (.mv (.t 47))),none,0⟩,
⟨(some 48),(.q (.extract (.t 44) 0)),none,0⟩,
⟨(some 49),(.q (.extract (.t 44) 1)),none,0⟩,
⟨(some 12),(.a (.alloc 28 [.nilsl])),none,0⟩,
⟨none,(.x (.st 1 (.t 12) (.t 48))),none,0⟩,
⟨(some 13),(.q (.mv (.t 49))),none,0⟩])
(.seq (.seq (.reg [⟨(some 50),(.q (.mv (.t 13))),none,0⟩,
⟨(some 51),(.q (.bin .neq (.p .int) (.t 50) (.c (.int .i64 (.ofNat 0))))),none,0⟩])
(.cond (.t 51) (.seq (.reg [⟨(some 52),(.q (.build [.nilsl,.nilsl] [])),none,0⟩,
⟨(some 53),(.q (.mv (.t 13))),none,0⟩,
⟨none,(.x (.st 2 (.t 4) (.t 52))),none,0⟩,
⟨none,(.x (.st 1 (.t 5) (.t 53))),none,0⟩])
.ret) .skip))
(.seq (.reg [⟨(some 55),(.q (.ld true 3 (.t 2))),none,0⟩,
⟨(some 56),(.q (.mv (.t 11))),none,0⟩,
⟨(some 57),(.x (.call (.c (.fn 58 [] [])) [(.t 55),(.t 56)])),none,0⟩,
⟨(some 54),(.q (.mv (.t 57))),none,0⟩,
⟨(some 58),(.q (.extract (.t 54) 0)),none,0⟩,
⟨(some 59),(.q (.extract (.t 54) 1)),none,0⟩,
⟨(some 14),(.a (.alloc 26 [.nilsl])),none,0⟩,
⟨none,(.x (.st 1 (.t 14) (.t 58))),none,0⟩,
⟨(some 13),(.q (.mv (.t 59))),none,0⟩])
(.seq (.seq (.reg [⟨(some 60),(.q (.mv (.t 13))),none,0⟩,
⟨(some 61),(.q (.bin .neq (.p .int) (.t 60) (.c (.int .i64 (.ofNat 0))))),none,0⟩])
(.cond (.t 61) (.seq (.reg [⟨(some 62),(.q (.build [.nilsl,.nilsl] [])),none,0⟩,
⟨(some 63),(.q (.mv (.t 13))),none,0⟩,
⟨none,(.x (.st 2 (.t 4) (.t 62))),none,0⟩,
⟨none,(.x (.st 1 (.t 5) (.t 63))),none,0⟩])
.ret) .skip))
(.seq (.reg [⟨(some 64),(.q (.faddr 2 (.t 2))),none,0⟩,
⟨(some 65),(.q (.ld false 1 (.t 64))),none,0⟩,
⟨(some 66),(.x (.call (.c (.fn 47 [] [])) [(.t 65)])),none,0⟩])
(.block 2 (.rng (.t 66) [67,68] (.seq (.reg [⟨(some 15),(.q (.mv (.t 67))),none,0⟩])
(.reg [⟨(some 16),(.q (.mv (.t 68))),none,0⟩])) (.block 3 (.drw [⟨(some 69),(.q (.ld false 1 (.t 9))),none,0⟩,
⟨(some 70),(.q (.mv (.t 15))),none,0⟩,
⟨(some 71),(.q (.mv (.t 16))),none,0⟩,
⟨(some 72),(.q (.build [(.int .i64 (.ofNat 0)),(.int .i64 (.ofNat 0))] [(0,1,(.t 70)),(1,1,(.t 71))])),none,6⟩,
⟨(some 73),(.q (.ld false 1 (.t 12))),none,0⟩,
⟨(some 74),(.q (.mv (.t 15))),none,0⟩,
⟨(some 75),(.q (.iaddr (.slice 1) (.t 73) (.t 74))),none,48⟩,
⟨(some 76),(.q (.ld false 1 (.t 75))),none,112⟩,
⟨(some 77),(.q (.ld false 1 (.t 14))),none,0⟩,
⟨(some 78),(.q (.mv (.t 15))),none,0⟩,
⟨(some 79),(.q (.iaddr (.slice 1) (.t 77) (.t 78))),none,768⟩,
⟨(some 80),(.q (.ld false 1 (.t 79))),none,1792⟩,
⟨(some 81),(.q (.mv (.t 16))),none,0⟩,
⟨(some 82),(.q (.iaddr (.slice 1) (.t 80) (.t 81))),none,7936⟩,
⟨(some 83),(.q (.ld false 1 (.t 82))),none,16128⟩,
⟨(some 84),(.q (.build [(.int .i64 (.ofNat 0)),(.int .i64 (.ofNat 0))] [(0,1,(.t 76)),(1,1,(.t 83))])),none,32752⟩,
⟨(some 85),(.x (.call (.c (.fn 59 [] [])) [(.t 69),(.t 72),(.t 84)])),none,65535⟩])))))))))))
(.reg [⟨(some 86),(.q (.bin .add (.p .int) (.t 40) (.c (.int .i64 (.ofNat 1))))),none,0⟩,
⟨(some 40),(.q (.mv (.t 86))),none,0⟩])))))))
(.seq (.reg [⟨(some 87),(.a (.mkMap)),none,0⟩,
⟨(some 17),(.a (.alloc 113 [.nilmap])),none,0⟩,
⟨none,(.x (.st 1 (.t 17) (.t 87))),none,0⟩])
(.seq (.drw [⟨(some 88),(.q (.ld false 1 (.t 7))),none,0⟩,
⟨(some 89),(.q (.faddr 2 (.t 2))),none,0⟩,
⟨(some 90),(.q (.ld false 1 (.t 89))),none,2⟩,
⟨(some 91),(.q (.lenSl (.t 90))),none,6⟩,
⟨(some 92),(.a (.mkSlice 28 1 24 [.nilsl] (.t 91) (.t 91))),none,14⟩,
⟨(some 93),(.q (.build [.nilsl,.nilsl] [(0,1,(.t 88)),(1,1,(.t 92))])),none,31⟩,
⟨(some 18),(.a (.alloc 75 [.nilsl,.nilsl])),none,0⟩,
⟨none,(.x (.st 2 (.t 18) (.t 93))),none,127⟩])
(.seq (.seq (.reg [⟨(some 94),(.q (.faddr 2 (.t 2))),none,0⟩,
⟨(some 95),(.q (.ld false 1 (.t 94))),none,0⟩,
⟨(some 96),(.x (.call (.c (.fn 47 [] [])) [(.t 95)])),none,0⟩])
(.block 4 (.rng (.t 96) [97,98] (.seq (.reg [⟨(some 19),(.q (.mv (.t 97))),none,0⟩])
(.reg [⟨(some 20),(.q (.mv (.t 98))),none,0⟩])) (.block 5 (.seq (.reg [⟨(some 99),(.q (.ld false 1 (.t 9))),none,0⟩,
⟨(some 100),(.q (.mv (.t 19))),none,0⟩,
⟨(some 101),(.q (.mv (.t 20))),none,0⟩,
⟨(some 102),(.q (.build [(.int .i64 (.ofNat 0)),(.int .i64 (.ofNat 0))] [(0,1,(.t 100)),(1,1,(.t 101))])),none,0⟩,
⟨(some 103),(.x (.call (.c (.fn 60 [] [])) [(.t 99),(.t 102)])),none,0⟩,
⟨(some 21),(.a (.alloc 112 [(.int .i64 (.ofNat 0)),(.int .i64 (.ofNat 0))])),none,0⟩,
⟨none,(.x (.st 2 (.t 21) (.t 103))),none,0⟩])
(.seq (.seq (.reg [⟨(some 104),(.q (.ld false 1 (.t 7))),none,0⟩,
⟨(some 105),(.q (.mv (.t 19))),none,0⟩,
⟨(some 106),(.q (.iaddr (.slice 1) (.t 104) (.t 105))),none,0⟩,
⟨(some 107),(.q (.ld false 1 (.t 106))),none,0⟩,
⟨(some 108),(.q (.mv (.t 19))),none,0⟩,
⟨(some 109),(.q (.bin .eql (.p .int) (.t 107) (.t 108))),none,0⟩])
(.cond (.t 109) (.seq (.seq (.reg [⟨(some 111),(.q (.ld false 1 (.t 17))),none,0⟩,
⟨(some 112),(.q (.ld true 2 (.t 21))),none,0⟩,
⟨(some 113),(.q (.lookup (.struct [(0,.int),(1,.int)]) (.int .i64 (.ofNat 0)) true (.t 111) (.t 112))),none,0⟩,
⟨(some 110),(.q (.mv (.t 113))),none,0⟩,
⟨(some 114),(.q (.extract (.t 110) 0)),none,0⟩,
⟨(some 115),(.q (.extract (.t 110) 1)),none,0⟩,
⟨(some 22),(.q (.mv (.t 114))),none,0⟩,
⟨(some 23),(.q (.mv (.t 115))),none,0⟩])
(.seq (.reg [⟨(some 116),(.q (.mv (.t 23))),none,0⟩])
(.cond (.t 116) (.seq (.reg [⟨(some 117),(.q (.build [.nilsl,.nilsl] [])),none,0⟩,
⟨none,(.x (.st 2 (.t 4) (.t 117))),none,0⟩,
⟨none,(.x (.st 1 (.t 5) (.c (.int .i64 (.ofNat 13))))),none,0⟩])
.ret) .skip)))
(.reg [⟨(some 118),(.q (.ld false 1 (.t 17))),none,0⟩,
⟨(some 119),(.q (.ld true 2 (.t 21))),none,0⟩,
⟨(some 120),(.q (.mv (.t 20))),none,0⟩,
⟨none,(.x (.mapUpd (.struct [(0,.int),(1,.int)]) (.t 118) (.t 119) (.t 120))),none,0⟩])) .skip))
(.drw [⟨(some 121),(.q (.faddr 1 (.t 18))),none,0⟩,
⟨(some 122),(.q (.ld false 1 (.t 121))),none,1⟩,
⟨(some 123),(.q (.mv (.t 19))),none,0⟩,
⟨(some 124),(.q (.faddr 1 (.t 18))),none,0⟩,
⟨(some 125),(.q (.ld false 1 (.t 124))),none,8⟩,
⟨(some 126),(.q (.mv (.t 19))),none,0⟩,
⟨(some 127),(.q (.iaddr (.slice 1) (.t 125) (.t 126))),none,56⟩,
⟨(some 128),(.q (.ld false 1 (.t 127))),none,120⟩,
⟨(some 129),(.q (.ld false 1 (.t 17))),none,0⟩,
⟨(some 130),(.q (.ld true 2 (.t 21))),none,0⟩,
⟨(some 131),(.q (.lookup (.struct [(0,.int),(1,.int)]) (.int .i64 (.ofNat 0)) false (.t 129) (.t 130))),none,768⟩,
⟨(some 132),(.a (.bslice 3 1 1 [(.int .i64 (.ofNat 0))] [(0,(.t 131))])),none,1792⟩,
⟨(some 133),(.x (.app 3 1 8 (.t 128) (.t 132))),none,4088⟩,
⟨(some 134),(.q (.iaddr (.slice 1) (.t 122) (.t 123))),none,8191⟩,
⟨none,(.x (.st 1 (.t 134) (.t 133))),none,16383⟩])))))))
(.seq (.reg [⟨(some 135),(.q (.ld true 2 (.t 18))),none,0⟩,
⟨none,(.x (.st 2 (.t 4) (.t 135))),none,0⟩,
⟨none,(.x (.st 1 (.t 5) (.c (.int .i64 (.ofNat 0))))),none,0⟩])
.ret)))))))))⟩
theorem row32 : Row Try.prog (32, a32) := ⟨Try.f32, Try.func32, by kernel_rfl⟩
noncomputable def a33 : AFn :=
⟨57,[(.cell 4 true 6)],(.seq (.reg [⟨(some 2),(.a (.box 75 (.t 0))),none,0⟩,
⟨(some 3),(.a (.box 25 (.t 1))),none,0⟩,
⟨(some 4),(.a (.alloc 30 [(.int .i64 (.ofNat 0)),.nilsl,.nilsl,.nilsl,.nilsl,.nilsl])),none,0⟩])
(.seq (.reg [⟨(some 13),(.a (.mkMap)),none,0⟩,
⟨(some 5),(.a (.alloc 116 [.nilmap])),none,0⟩,
⟨none,(.x (.st 1 (.t 5) (.t 13))),none,0⟩])
(.seq (.reg [⟨(some 6),(.a (.alloc 23 [.nilsl])),none,0⟩])
(.seq (.reg [⟨(some 7),(.a (.alloc 22 [.nilsl])),none,0⟩])
(.seq (.reg [⟨(some 14),(.q (.faddr 1 (.t 3))),none,0⟩,
⟨(some 15),(.q (.ld false 1 (.t 14))),none,0⟩,
⟨(some 16),(.q (.lenSl (.t 15))),none,0⟩,
⟨(some 17),(.a (.mkSlice 3 1 8 [(.int .i64 (.ofNat 0))] (.t 16) (.t 16))),none,0⟩,
⟨(some 8),(.a (.alloc 28 [.nilsl])),none,0⟩,
⟨none,(.x (.st 1 (.t 8) (.t 17))),none,0⟩])
(.seq (.reg [⟨(some 9),(.a (.alloc 72 [.nilfn])),none,0⟩])
(.seq (.reg [⟨(some 18),(.q (.mkFunc 61 [] [(.t 7),(.t 8),(.t 3),(.t 2),(.t 5),(.t 6),(.t 9)])),none,0⟩,
⟨none,(.x (.st 1 (.t 9) (.t 18))),none,0⟩])
(.seq (.reg [⟨(some 19),(.q (.ld false 1 (.t 9))),none,0⟩,
⟨(some 20),(.x (.call (.t 19) [(.c (.int .i64 (.ofNat 0)))])),none,0⟩])
(.seq (.reg [⟨(some 21),(.q (.faddr 0 (.t 3))),none,0⟩,
⟨(some 22),(.q (.ld false 1 (.t 21))),none,0⟩,
⟨(some 23),(.q (.ld false 1 (.t 7))),none,0⟩,
⟨(some 24),(.q (.ld false 1 (.t 6))),none,0⟩,
⟨(some 25),(.q (.build [(.int .i64 (.ofNat 0)),.nilsl,.nilsl] [(0,1,(.t 22)),(1,1,(.t 23)),(2,1,(.t 24))])),none,0⟩,
⟨(some 26),(.q (.ld false 1 (.t 8))),none,0⟩,
⟨(some 27),(.q (.build [(.int .i64 (.ofNat 0)),.nilsl,.nilsl,.nilsl,.nilsl,.nilsl] [(0,3,(.t 25)),(5,1,(.t 26))])),none,0⟩,
⟨(some 10),(.a (.alloc 30 [(.int .i64 (.ofNat 0)),.nilsl,.nilsl,.nilsl,.nilsl,.nilsl])),none,0⟩,
⟨none,(.x (.st 6 (.t 10) (.t 27))),none,0⟩])
(.seq (.seq (.reg [⟨(some 28),(.q (.faddr 0 (.t 2))),none,0⟩,
⟨(some 29),(.q (.ld false 1 (.t 28))),none,0⟩,
⟨(some 30),(.q (.lenSl (.t 29))),none,0⟩,
⟨(some 31),(.q (.mv (.c (.int .i64 (.ofNat 0))))),none,0⟩])
(.block 0 (.loop (.seq (.reg [⟨(some 32),(.q (.bin .lss (.p .int) (.t 31) (.t 30))),none,0⟩])
(.seq (.cond (.t 32) .skip (.exit 0))
(.seq (.block 1 (.seq (.reg [⟨(some 33),(.q (.mv (.t 31))),none,0⟩,
⟨(some 34),(.q (.iaddr (.slice 1) (.t 29) (.t 31))),none,0⟩,
⟨(some 35),(.q (.ld false 1 (.t 34))),none,0⟩,
⟨(some 11),(.q (.mv (.t 33))),none,0⟩,
⟨(some 12),(.q (.mv (.t 35))),none,0⟩])
(.seq (.reg [⟨(some 36),(.q (.faddr 3 (.t 10))),none,0⟩,
⟨(some 37),(.q (.ld false 1 (.t 36))),none,0⟩,
⟨(some 38),(.q (.ld false 1 (.t 5))),none,0⟩,
⟨(some 39),(.q (.mv (.t 12))),none,0⟩,
⟨(some 40),(.q (.lookup (.p .int) (.int .i64 (.ofNat 0)) false (.t 38) (.t 39))),none,0⟩,
⟨(some 41),(.a (.bslice 3 1 1 [(.int .i64 (.ofNat 0))] [(0,(.t 40))])),none,0⟩,
⟨(some 42),(.x (.app 3 1 8 (.t 37) (.t 41))),none,0⟩,
⟨(some 43),(.q (.faddr 3 (.t 10))),none,0⟩,
⟨none,(.x (.st 1 (.t 43) (.t 42))),none,0⟩])
(.drw [⟨(some 44),(.q (.faddr 4 (.t 10))),none,0⟩,
⟨(some 45),(.q (.ld false 1 (.t 44))),none,1⟩,
⟨(some 46),(.q (.faddr 1 (.t 2))),none,0⟩,
⟨(some 47),(.q (.ld false 1 (.t 46))),none,4⟩,
⟨(some 48),(.q (.mv (.t 11))),none,0⟩,
⟨(some 49),(.q (.iaddr (.slice 1) (.t 47) (.t 48))),none,28⟩,
⟨(some 50),(.q (.ld false 1 (.t 49))),none,60⟩,
⟨(some 51),(.x (.call (.c (.fn 62 [] [])) [(.t 50)])),none,124⟩,
⟨(some 52),(.a (.bslice 28 1 1 [.nilsl] [(0,(.t 51))])),none,252⟩,
⟨(some 53),(.x (.app 28 1 24 (.t 45) (.t 52))),none,511⟩,
⟨(some 54),(.q (.faddr 4 (.t 10))),none,1023⟩,
⟨none,(.x (.st 1 (.t 54) (.t 53))),none,2047⟩]))))
(.reg [⟨(some 55),(.q (.bin .add (.p .int) (.t 31) (.c (.int .i64 (.ofNat 1))))),none,0⟩,
⟨(some 31),(.q (.mv (.t 55))),none,0⟩])))))))
(.seq (.reg [⟨(some 56),(.q (.ld true 6 (.t 10))),none,0⟩,
⟨none,(.x (.st 6 (.t 4) (.t 56))),none,0⟩])
.ret)))))))))))⟩
theorem row33 : Row Try.prog (33, a33) := ⟨Try.f33, Try.func33, by kernel_rfl⟩
end Go.Proofs.Ytfmgnnfghdjpfaa.abstractNames
