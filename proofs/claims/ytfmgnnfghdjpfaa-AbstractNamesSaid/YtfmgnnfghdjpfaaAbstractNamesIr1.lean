/- The functions that AbstractNames reaches, as data of the evaluator (part 1), written by program; each is shown to be the compiler's result on the loaded function. -/
import Derived.Test.YtfmgnnfghdjpfaaProg
import Derived.Test.YtfmgnnfghdjpfaaEvSt
import Derived.KernelRfl
namespace Go.Proofs.Ytfmgnnfghdjpfaa.abstractNames
open Go.Ev
set_option maxRecDepth 100000
noncomputable def a46 : AFn :=
⟨8,[(.t 4)],(.seq (.reg [⟨(some 4),(.q (.mv (.c (.bool false)))),none,0⟩])
(.seq (.reg [⟨(some 5),(.q (.mv (.t 0))),none,0⟩,
⟨(some 6),(.q (.mv (.t 1))),none,0⟩,
⟨(some 7),(.x (.call (.c (.fn 72 [] [])) [(.t 5),(.t 6),(.c (.fn 73 [] []))])),none,0⟩,
⟨(some 4),(.q (.mv (.t 7))),none,0⟩])
.ret))⟩
theorem row46 : Row Try.prog (46, a46) := ⟨Try.f46, Try.func46, by kernel_rfl⟩
noncomputable def a47 : AFn :=
⟨4,[(.t 2)],(.seq (.reg [⟨(some 1),(.a (.box 23 (.t 0))),none,0⟩,
⟨(some 2),(.q (.mv (.c .nilfn))),none,0⟩])
(.seq (.reg [⟨(some 3),(.q (.mkFunc 74 [] [(.t 1)])),none,0⟩,
⟨(some 2),(.q (.mv (.t 3))),none,0⟩])
.ret))⟩
theorem row47 : Row Try.prog (47, a47) := ⟨Try.f47, Try.func47, by kernel_rfl⟩
noncomputable def a48 : AFn :=
⟨12,[(.cell 2 true 3)],(.seq (.reg [⟨(some 1),(.a (.box 60 (.t 0))),none,0⟩,
⟨(some 2),(.a (.alloc 60 [(.bool false),.nilsl,.nilsl])),none,0⟩])
(.seq (.drw [⟨(some 3),(.q (.faddr 0 (.t 1))),none,0⟩,
⟨(some 4),(.q (.ld false 1 (.t 3))),none,1⟩,
⟨(some 5),(.q (.faddr 1 (.t 1))),none,0⟩,
⟨(some 6),(.q (.ld false 1 (.t 5))),none,4⟩,
⟨(some 7),(.x (.call (.c (.fn 75 [] [])) [(.t 6)])),none,12⟩,
⟨(some 8),(.q (.faddr 2 (.t 1))),none,0⟩,
⟨(some 9),(.q (.ld false 1 (.t 8))),none,32⟩,
⟨(some 10),(.x (.call (.c (.fn 75 [] [])) [(.t 9)])),none,124⟩,
⟨(some 11),(.q (.build [(.bool false),.nilsl,.nilsl] [(0,1,(.t 4)),(1,1,(.t 7)),(2,1,(.t 10))])),none,255⟩,
⟨none,(.x (.st 3 (.t 2) (.t 11))),none,511⟩])
.ret))⟩
theorem row48 : Row Try.prog (48, a48) := ⟨Try.f48, Try.func48, by kernel_rfl⟩
noncomputable def a49 : AFn :=
⟨41,[(.cell 6 false 1)],(.seq (.reg [⟨(some 3),(.a (.box 75 (.t 0))),none,0⟩,
⟨(some 4),(.a (.box 25 (.t 1))),none,0⟩,
⟨(some 5),(.a (.box 65 (.t 2))),none,0⟩,
⟨(some 6),(.a (.alloc 4 [(.bool false)])),none,0⟩])
(.seq (.seq (.reg [⟨(some 9),(.q (.faddr 2 (.t 4))),none,0⟩,
⟨(some 10),(.q (.ld false 1 (.t 9))),none,0⟩,
⟨(some 11),(.x (.call (.c (.fn 47 [] [])) [(.t 10)])),none,0⟩])
(.block 0 (.rng (.t 11) [12,13] (.seq (.reg [⟨(some 7),(.q (.mv (.t 12))),none,0⟩])
(.reg [⟨(some 8),(.q (.mv (.t 13))),none,0⟩])) (.block 1 (.seq (.drw [⟨(some 14),(.q (.ld false 1 (.t 5))),none,0⟩,
⟨(some 15),(.q (.mv (.t 7))),none,0⟩,
⟨(some 16),(.q (.iaddr (.slice 1) (.t 14) (.t 15))),none,3⟩,
⟨(some 17),(.q (.ld false 1 (.t 16))),none,7⟩,
⟨(some 18),(.q (.mv (.t 8))),none,0⟩,
⟨(some 19),(.q (.iaddr (.slice 3) (.t 17) (.t 18))),none,31⟩,
⟨(some 20),(.q (.ld true 3 (.t 19))),none,63⟩,
⟨(some 21),(.q (.ld false 1 (.t 5))),none,0⟩,
⟨(some 22),(.q (.faddr 0 (.t 3))),none,0⟩,
⟨(some 23),(.q (.ld false 1 (.t 22))),none,256⟩,
⟨(some 24),(.q (.mv (.t 7))),none,0⟩,
⟨(some 25),(.q (.iaddr (.slice 1) (.t 23) (.t 24))),none,1792⟩,
⟨(some 26),(.q (.ld false 1 (.t 25))),none,3840⟩,
⟨(some 27),(.q (.iaddr (.slice 1) (.t 21) (.t 26))),none,8064⟩,
⟨(some 28),(.q (.ld false 1 (.t 27))),none,16256⟩,
⟨(some 29),(.q (.faddr 1 (.t 3))),none,0⟩,
⟨(some 30),(.q (.ld false 1 (.t 29))),none,32768⟩,
⟨(some 31),(.q (.mv (.t 7))),none,0⟩,
⟨(some 32),(.q (.iaddr (.slice 1) (.t 30) (.t 31))),none,229376⟩,
⟨(some 33),(.q (.ld false 1 (.t 32))),none,491520⟩,
⟨(some 34),(.q (.mv (.t 8))),none,0⟩,
⟨(some 35),(.q (.iaddr (.slice 1) (.t 33) (.t 34))),none,2064384⟩,
⟨(some 36),(.q (.ld false 1 (.t 35))),none,4161536⟩,
⟨(some 37),(.q (.iaddr (.slice 3) (.t 28) (.t 36))),none,8388480⟩,
⟨(some 38),(.q (.ld true 3 (.t 37))),none,16777088⟩,
⟨(some 39),(.x (.call (.c (.fn 76 [] [])) [(.t 20),(.t 38)])),none,33554431⟩,
⟨(some 40),(.q (.un .not (.t 39))),none,67108863⟩])
(.cond (.t 40) (.seq (.reg [⟨none,(.x (.st 1 (.t 6) (.c (.bool false)))),none,0⟩])
.ret) .skip))))))
(.seq (.reg [⟨none,(.x (.st 1 (.t 6) (.c (.bool true)))),none,0⟩])
.ret)))⟩
theorem row49 : Row Try.prog (49, a49) := ⟨Try.f49, Try.func49, by kernel_rfl⟩
noncomputable def a50 : AFn :=
⟨24,[(.t 4)],(.seq (.reg [⟨(some 2),(.a (.box 60 (.t 0))),none,0⟩,
⟨(some 3),(.a (.box 60 (.t 1))),none,0⟩,
⟨(some 4),(.q (.mv (.c (.bool false)))),none,0⟩])
(.seq (.reg [⟨(some 5),(.q (.faddr 0 (.t 2))),none,0⟩,
⟨(some 6),(.q (.ld false 1 (.t 5))),none,0⟩,
⟨(some 7),(.q (.faddr 0 (.t 3))),none,0⟩,
⟨(some 8),(.q (.ld false 1 (.t 7))),none,0⟩,
⟨(some 9),(.q (.bin .eql (.p .bool) (.t 6) (.t 8))),none,0⟩,
⟨(some 10),(.q (.mv (.t 9))),none,0⟩,
⟨(some 11),(.q (.faddr 1 (.t 2))),(some (10,true)),0⟩,
⟨(some 12),(.q (.ld false 1 (.t 11))),(some (10,true)),0⟩,
⟨(some 13),(.q (.faddr 1 (.t 3))),(some (10,true)),0⟩,
⟨(some 14),(.q (.ld false 1 (.t 13))),(some (10,true)),0⟩,
⟨(some 15),(.x (.call (.c (.fn 77 [] [])) [(.t 12),(.t 14)])),(some (10,true)),0⟩,
⟨(some 16),(.q (.pick (.t 10) (.t 15) (.c (.bool false)))),none,0⟩,
⟨(some 17),(.q (.mv (.t 16))),none,0⟩,
⟨(some 18),(.q (.faddr 2 (.t 2))),(some (17,true)),0⟩,
⟨(some 19),(.q (.ld false 1 (.t 18))),(some (17,true)),0⟩,
⟨(some 20),(.q (.faddr 2 (.t 3))),(some (17,true)),0⟩,
⟨(some 21),(.q (.ld false 1 (.t 20))),(some (17,true)),0⟩,
⟨(some 22),(.x (.call (.c (.fn 77 [] [])) [(.t 19),(.t 21)])),(some (17,true)),0⟩,
⟨(some 23),(.q (.pick (.t 17) (.t 22) (.c (.bool false)))),none,0⟩,
⟨(some 4),(.q (.mv (.t 23))),none,0⟩])
.ret))⟩
theorem row50 : Row Try.prog (50, a50) := ⟨Try.f50, Try.func50, by kernel_rfl⟩
noncomputable def a56 : AFn :=
⟨52,[(.t 4),(.t 5),(.t 6)],(.seq (.reg [⟨(some 2),(.a (.box 25 (.t 0))),none,0⟩,
⟨(some 4),(.q (.mv (.c .nilsl))),none,0⟩,
⟨(some 5),(.q (.mv (.c .nilsl))),none,0⟩,
⟨(some 6),(.q (.mv (.c (.int .i64 (.ofNat 0))))),none,0⟩])
(.seq (.reg [⟨(some 14),(.q (.ld true 3 (.t 2))),none,0⟩,
⟨(some 15),(.x (.call (.c (.fn 78 [] [])) [(.t 14)])),none,0⟩,
⟨(some 13),(.q (.mv (.t 15))),none,0⟩,
⟨(some 16),(.q (.extract (.t 13) 0)),none,0⟩,
⟨(some 17),(.q (.extract (.t 13) 1)),none,0⟩,
⟨(some 7),(.q (.mv (.t 16))),none,0⟩,
⟨(some 8),(.q (.mv (.t 17))),none,0⟩])
(.seq (.seq (.reg [⟨(some 18),(.q (.mv (.t 8))),none,0⟩,
⟨(some 19),(.q (.bin .neq (.p .int) (.t 18) (.c (.int .i64 (.ofNat 0))))),none,0⟩])
(.cond (.t 19) (.seq (.reg [⟨(some 20),(.q (.mv (.t 8))),none,0⟩,
⟨(some 4),(.q (.mv (.c .nilsl))),none,0⟩,
⟨(some 5),(.q (.mv (.c .nilsl))),none,0⟩,
⟨(some 6),(.q (.mv (.t 20))),none,0⟩])
.ret) .skip))
(.seq (.reg [⟨(some 22),(.q (.mv (.t 7))),none,0⟩,
⟨(some 23),(.q (.mv (.t 1))),none,0⟩,
⟨(some 24),(.x (.call (.c (.fn 79 [] [])) [(.t 22),(.t 23)])),none,0⟩,
⟨(some 21),(.q (.mv (.t 24))),none,0⟩,
⟨(some 25),(.q (.extract (.t 21) 0)),none,0⟩,
⟨(some 26),(.q (.extract (.t 21) 1)),none,0⟩,
⟨(some 9),(.q (.mv (.t 25))),none,0⟩,
⟨(some 8),(.q (.mv (.t 26))),none,0⟩])
(.seq (.seq (.reg [⟨(some 27),(.q (.mv (.t 8))),none,0⟩,
⟨(some 28),(.q (.bin .neq (.p .int) (.t 27) (.c (.int .i64 (.ofNat 0))))),none,0⟩])
(.cond (.t 28) (.seq (.reg [⟨(some 29),(.q (.mv (.t 8))),none,0⟩,
⟨(some 4),(.q (.mv (.c .nilsl))),none,0⟩,
⟨(some 5),(.q (.mv (.c .nilsl))),none,0⟩,
⟨(some 6),(.q (.mv (.t 29))),none,0⟩])
.ret) .skip))
(.seq (.reg [⟨(some 10),(.q (.mv (.c .nilsl))),none,0⟩])
(.seq (.seq (.reg [⟨(some 30),(.q (.mv (.t 9))),none,0⟩,
⟨(some 31),(.q (.lenSl (.t 30))),none,0⟩,
⟨(some 32),(.q (.mv (.c (.int .i64 (.ofNat 0))))),none,0⟩])
(.block 0 (.loop (.seq (.reg [⟨(some 33),(.q (.bin .lss (.p .int) (.t 32) (.t 31))),none,0⟩])
(.seq (.cond (.t 33) .skip (.exit 0))
(.seq (.block 1 (.seq (.reg [⟨(some 34),(.q (.iaddr (.slice 2) (.t 30) (.t 32))),none,0⟩,
⟨(some 35),(.q (.ld true 2 (.t 34))),none,0⟩,
⟨(some 12),(.a (.alloc 144 [.nilsl,.nilsl])),none,0⟩,
⟨none,(.x (.st 2 (.t 12) (.t 35))),none,0⟩])
(.reg [⟨(some 36),(.q (.mv (.t 10))),none,0⟩,
⟨(some 37),(.q (.faddr 0 (.t 12))),none,0⟩,
⟨(some 38),(.q (.ld false 1 (.t 37))),none,0⟩,
⟨(some 39),(.a (.bslice 28 1 1 [.nilsl] [(0,(.t 38))])),none,0⟩,
⟨(some 40),(.x (.app 28 1 24 (.t 36) (.t 39))),none,0⟩,
⟨(some 10),(.q (.mv (.t 40))),none,0⟩])))
(.reg [⟨(some 41),(.q (.bin .add (.p .int) (.t 32) (.c (.int .i64 (.ofNat 1))))),none,0⟩,
⟨(some 32),(.q (.mv (.t 41))),none,0⟩])))))))
(.seq (.drw [⟨(some 42),(.q (.faddr 1 (.t 2))),none,0⟩,
⟨(some 43),(.q (.ld false 1 (.t 42))),none,1⟩,
⟨(some 44),(.q (.lenSl (.t 43))),none,3⟩,
⟨(some 45),(.q (.mv (.t 1))),none,0⟩,
⟨(some 46),(.x (.call (.c (.fn 80 [] [])) [(.t 44),(.t 45)])),none,15⟩,
⟨(some 47),(.q (.faddr 2 (.t 2))),none,0⟩,
⟨(some 48),(.q (.ld false 1 (.t 47))),none,32⟩,
⟨(some 49),(.q (.lenSl (.t 48))),none,96⟩,
⟨(some 50),(.q (.mv (.t 10))),none,0⟩,
⟨(some 51),(.x (.call (.c (.fn 80 [] [])) [(.t 49),(.t 50)])),none,511⟩,
⟨(some 4),(.q (.mv (.t 46))),none,1023⟩,
⟨(some 5),(.q (.mv (.t 51))),none,2047⟩,
⟨(some 6),(.q (.mv (.c (.int .i64 (.ofNat 0))))),none,4095⟩])
.ret))))))))⟩
theorem row56 : Row Try.prog (56, a56) := ⟨Try.f56, Try.func56, by kernel_rfl⟩
noncomputable def a57 : AFn :=
⟨26,[(.t 4),(.t 5)],(.seq (.reg [⟨(some 2),(.a (.box 25 (.t 0))),none,0⟩,
⟨(some 4),(.q (.mv (.c .nilsl))),none,0⟩,
⟨(some 5),(.q (.mv (.c (.int .i64 (.ofNat 0))))),none,0⟩])
(.seq (.reg [⟨(some 10),(.q (.ld true 3 (.t 2))),none,0⟩,
⟨(some 11),(.x (.call (.c (.fn 78 [] [])) [(.t 10)])),none,0⟩,
⟨(some 9),(.q (.mv (.t 11))),none,0⟩,
⟨(some 12),(.q (.extract (.t 9) 0)),none,0⟩,
⟨(some 13),(.q (.extract (.t 9) 1)),none,0⟩,
⟨(some 6),(.q (.mv (.t 12))),none,0⟩,
⟨(some 7),(.q (.mv (.t 13))),none,0⟩])
(.seq (.seq (.reg [⟨(some 14),(.q (.mv (.t 7))),none,0⟩,
⟨(some 15),(.q (.bin .neq (.p .int) (.t 14) (.c (.int .i64 (.ofNat 0))))),none,0⟩])
(.cond (.t 15) (.seq (.reg [⟨(some 16),(.q (.mv (.t 7))),none,0⟩,
⟨(some 4),(.q (.mv (.c .nilsl))),none,0⟩,
⟨(some 5),(.q (.mv (.t 16))),none,0⟩])
.ret) .skip))
(.seq (.reg [⟨(some 18),(.q (.mv (.t 6))),none,0⟩,
⟨(some 19),(.q (.mv (.t 1))),none,0⟩,
⟨(some 20),(.x (.call (.c (.fn 81 [] [])) [(.t 18),(.t 19)])),none,0⟩,
⟨(some 17),(.q (.mv (.t 20))),none,0⟩,
⟨(some 21),(.q (.extract (.t 17) 0)),none,0⟩,
⟨(some 22),(.q (.extract (.t 17) 1)),none,0⟩,
⟨(some 8),(.a (.alloc 144 [.nilsl,.nilsl])),none,0⟩,
⟨none,(.x (.st 2 (.t 8) (.t 21))),none,0⟩,
⟨(some 7),(.q (.mv (.t 22))),none,0⟩])
(.seq (.reg [⟨(some 23),(.q (.faddr 0 (.t 8))),none,0⟩,
⟨(some 24),(.q (.ld false 1 (.t 23))),none,0⟩,
⟨(some 25),(.q (.mv (.t 7))),none,0⟩,
⟨(some 4),(.q (.mv (.t 24))),none,0⟩,
⟨(some 5),(.q (.mv (.t 25))),none,0⟩])
.ret)))))⟩
theorem row57 : Row Try.prog (57, a57) := ⟨Try.f57, Try.func57, by kernel_rfl⟩
noncomputable def a58 : AFn :=
⟨26,[(.t 4),(.t 5)],(.seq (.reg [⟨(some 2),(.a (.box 25 (.t 0))),none,0⟩,
⟨(some 4),(.q (.mv (.c .nilsl))),none,0⟩,
⟨(some 5),(.q (.mv (.c (.int .i64 (.ofNat 0))))),none,0⟩])
(.seq (.reg [⟨(some 10),(.q (.ld true 3 (.t 2))),none,0⟩,
⟨(some 11),(.x (.call (.c (.fn 78 [] [])) [(.t 10)])),none,0⟩,
⟨(some 9),(.q (.mv (.t 11))),none,0⟩,
⟨(some 12),(.q (.extract (.t 9) 0)),none,0⟩,
⟨(some 13),(.q (.extract (.t 9) 1)),none,0⟩,
⟨(some 6),(.q (.mv (.t 12))),none,0⟩,
⟨(some 7),(.q (.mv (.t 13))),none,0⟩])
(.seq (.seq (.reg [⟨(some 14),(.q (.mv (.t 7))),none,0⟩,
⟨(some 15),(.q (.bin .neq (.p .int) (.t 14) (.c (.int .i64 (.ofNat 0))))),none,0⟩])
(.cond (.t 15) (.seq (.reg [⟨(some 16),(.q (.mv (.t 7))),none,0⟩,
⟨(some 4),(.q (.mv (.c .nilsl))),none,0⟩,
⟨(some 5),(.q (.mv (.t 16))),none,0⟩])
.ret) .skip))
(.seq (.reg [⟨(some 18),(.q (.mv (.t 6))),none,0⟩,
⟨(some 19),(.q (.mv (.t 1))),none,0⟩,
⟨(some 20),(.x (.call (.c (.fn 81 [] [])) [(.t 18),(.t 19)])),none,0⟩,
⟨(some 17),(.q (.mv (.t 20))),none,0⟩,
⟨(some 21),(.q (.extract (.t 17) 0)),none,0⟩,
⟨(some 22),(.q (.extract (.t 17) 1)),none,0⟩,
⟨(some 8),(.a (.alloc 144 [.nilsl,.nilsl])),none,0⟩,
⟨none,(.x (.st 2 (.t 8) (.t 21))),none,0⟩,
⟨(some 7),(.q (.mv (.t 22))),none,0⟩])
(.seq (.reg [⟨(some 23),(.q (.faddr 1 (.t 8))),none,0⟩,
⟨(some 24),(.q (.ld false 1 (.t 23))),none,0⟩,
⟨(some 25),(.q (.mv (.t 7))),none,0⟩,
⟨(some 4),(.q (.mv (.t 24))),none,0⟩,
⟨(some 5),(.q (.mv (.t 25))),none,0⟩])
.ret)))))⟩
theorem row58 : Row Try.prog (58, a58) := ⟨Try.f58, Try.func58, by kernel_rfl⟩
noncomputable def a59 : AFn :=
⟨21,[],(.seq (.reg [⟨(some 4),(.a (.box 112 (.t 1))),none,0⟩,
⟨(some 5),(.a (.box 112 (.t 2))),none,0⟩])
(.seq (.drw [⟨(some 6),(.q (.mv (.t 0))),none,0⟩,
⟨(some 7),(.q (.ld true 2 (.t 4))),none,0⟩,
⟨(some 8),(.x (.call (.c (.fn 60 [] [])) [(.t 6),(.t 7)])),none,3⟩,
⟨(some 9),(.q (.mv (.t 0))),none,0⟩,
⟨(some 10),(.q (.ld true 2 (.t 5))),none,0⟩,
⟨(some 11),(.x (.call (.c (.fn 60 [] [])) [(.t 9),(.t 10)])),none,31⟩,
⟨none,(.x (.st 2 (.t 4) (.t 8))),none,63⟩,
⟨none,(.x (.st 2 (.t 5) (.t 11))),none,127⟩])
(.seq (.reg [⟨(some 12),(.q (.ld true 2 (.t 4))),none,0⟩,
⟨(some 13),(.q (.ld true 2 (.t 5))),none,0⟩,
⟨(some 14),(.q (.bin .neq (.struct [(0,.int),(1,.int)]) (.t 12) (.t 13))),none,0⟩])
(.cond (.t 14) (.drw [⟨(some 15),(.q (.mv (.t 0))),none,0⟩,
⟨(some 16),(.q (.nilchk (.t 15))),none,1⟩,
⟨(some 17),(.q (.faddr 0 (.t 16))),none,3⟩,
⟨(some 18),(.q (.ld false 1 (.t 17))),none,7⟩,
⟨(some 19),(.q (.ld true 2 (.t 4))),none,0⟩,
⟨(some 20),(.q (.ld true 2 (.t 5))),none,0⟩,
⟨none,(.x (.mapUpd (.struct [(0,.int),(1,.int)]) (.t 18) (.t 19) (.t 20))),none,63⟩]) .skip))))⟩
theorem row59 : Row Try.prog (59, a59) := ⟨Try.f59, Try.func59, by kernel_rfl⟩
noncomputable def a60 : AFn :=
⟨38,[(.cell 4 true 2)],(.seq (.reg [⟨(some 3),(.a (.box 112 (.t 1))),none,0⟩,
⟨(some 4),(.a (.alloc 112 [(.int .i64 (.ofNat 0)),(.int .i64 (.ofNat 0))])),none,0⟩])
(.block 0 (.loop (.block 1 (.seq (.drw [⟨(some 10),(.q (.mv (.t 0))),none,0⟩,
⟨(some 11),(.q (.nilchk (.t 10))),none,1⟩,
⟨(some 12),(.q (.faddr 0 (.t 11))),none,3⟩,
⟨(some 13),(.q (.ld false 1 (.t 12))),none,7⟩,
⟨(some 14),(.q (.ld true 2 (.t 3))),none,0⟩,
⟨(some 15),(.q (.lookup (.struct [(0,.int),(1,.int)]) (.agg [(.int .i64 (.ofNat 0)),(.int .i64 (.ofNat 0))]) true (.t 13) (.t 14))),none,31⟩,
⟨(some 9),(.q (.mv (.t 15))),none,63⟩,
⟨(some 16),(.q (.extract (.t 9) 0)),none,127⟩,
⟨(some 17),(.q (.extract (.t 9) 1)),none,127⟩,
⟨(some 5),(.a (.alloc 112 [(.int .i64 (.ofNat 0)),(.int .i64 (.ofNat 0))])),none,0⟩,
⟨none,(.x (.st 2 (.t 5) (.t 16))),none,767⟩,
⟨(some 6),(.q (.mv (.t 17))),none,2047⟩])
(.seq (.seq (.reg [⟨(some 18),(.q (.mv (.t 6))),none,0⟩,
⟨(some 19),(.q (.un .not (.t 18))),none,0⟩])
(.cond (.t 19) (.seq (.reg [⟨(some 20),(.q (.ld true 2 (.t 3))),none,0⟩,
⟨none,(.x (.st 2 (.t 4) (.t 20))),none,0⟩])
.ret) .skip))
(.seq (.seq (.drw [⟨(some 22),(.q (.mv (.t 0))),none,0⟩,
⟨(some 23),(.q (.nilchk (.t 22))),none,1⟩,
⟨(some 24),(.q (.faddr 0 (.t 23))),none,3⟩,
⟨(some 25),(.q (.ld false 1 (.t 24))),none,7⟩,
⟨(some 26),(.q (.ld true 2 (.t 5))),none,0⟩,
⟨(some 27),(.q (.lookup (.struct [(0,.int),(1,.int)]) (.agg [(.int .i64 (.ofNat 0)),(.int .i64 (.ofNat 0))]) true (.t 25) (.t 26))),none,31⟩,
⟨(some 21),(.q (.mv (.t 27))),none,63⟩,
⟨(some 28),(.q (.extract (.t 21) 0)),none,127⟩,
⟨(some 29),(.q (.extract (.t 21) 1)),none,127⟩,
⟨(some 7),(.a (.alloc 112 [(.int .i64 (.ofNat 0)),(.int .i64 (.ofNat 0))])),none,0⟩,
⟨none,(.x (.st 2 (.t 7) (.t 28))),none,767⟩,
⟨(some 8),(.q (.mv (.t 29))),none,2047⟩])
(.seq (.reg [⟨(some 30),(.q (.mv (.t 8))),none,0⟩])
(.cond (.t 30) (.drw [⟨(some 31),(.q (.mv (.t 0))),none,0⟩,
⟨(some 32),(.q (.nilchk (.t 31))),none,1⟩,
⟨(some 33),(.q (.faddr 0 (.t 32))),none,3⟩,
⟨(some 34),(.q (.ld false 1 (.t 33))),none,7⟩,
⟨(some 35),(.q (.ld true 2 (.t 3))),none,0⟩,
⟨(some 36),(.q (.ld true 2 (.t 7))),none,0⟩,
⟨none,(.x (.mapUpd (.struct [(0,.int),(1,.int)]) (.t 34) (.t 35) (.t 36))),none,63⟩]) .skip)))
(.reg [⟨(some 37),(.q (.ld true 2 (.t 5))),none,0⟩,
⟨none,(.x (.st 2 (.t 3) (.t 37))),none,0⟩]))))))))⟩
theorem row60 : Row Try.prog (60, a60) := ⟨Try.f60, Try.func60, by kernel_rfl⟩
noncomputable def a61 : AFn :=
⟨124,[(.t 9)],(.seq (.reg [⟨(some 9),(.q (.mv (.c (.int .i64 (.ofNat 0))))),none,0⟩])
(.seq (.reg [⟨(some 21),(.q (.ld false 1 (.t 1))),none,0⟩,
⟨(some 22),(.q (.lenSl (.t 21))),none,0⟩,
⟨(some 10),(.q (.mv (.t 22))),none,0⟩])
(.seq (.reg [⟨(some 23),(.q (.ld false 1 (.t 2))),none,0⟩,
⟨(some 24),(.q (.mv (.t 0))),none,0⟩,
⟨(some 25),(.q (.mv (.t 10))),none,0⟩,
⟨(some 26),(.q (.iaddr (.slice 1) (.t 23) (.t 24))),none,0⟩,
⟨none,(.x (.st 1 (.t 26) (.t 25))),none,0⟩])
(.seq (.reg [⟨(some 27),(.q (.faddr 1 (.t 3))),none,0⟩,
⟨(some 28),(.q (.ld false 1 (.t 27))),none,0⟩,
⟨(some 29),(.q (.mv (.t 0))),none,0⟩,
⟨(some 30),(.q (.iaddr (.slice 6) (.t 28) (.t 29))),none,0⟩,
⟨(some 31),(.q (.ld true 6 (.t 30))),none,0⟩,
⟨(some 11),(.a (.alloc 56 [(.int .i64 (.ofNat 0)),(.int .i64 (.ofNat 0)),(.int .i64 (.ofNat 0)),.nilsl,.nilsl,.nilsl])),none,0⟩,
⟨none,(.x (.st 6 (.t 11) (.t 31))),none,0⟩])
(.seq (.reg [⟨(some 32),(.q (.faddr 3 (.t 11))),none,0⟩,
⟨(some 33),(.q (.ld false 1 (.t 32))),none,0⟩,
⟨(some 34),(.x (.call (.c (.fn 62 [] [])) [(.t 33)])),none,0⟩,
⟨(some 12),(.q (.mv (.t 34))),none,0⟩])
(.seq (.seq (.reg [⟨(some 35),(.q (.faddr 0 (.t 11))),none,0⟩,
⟨(some 36),(.q (.ld false 1 (.t 35))),none,0⟩,
⟨(some 37),(.q (.bin .eql (.p .int) (.t 36) (.c (.int .i64 (.ofNat 2))))),none,0⟩])
(.cond (.t 37) (.seq (.seq (.reg [⟨(some 38),(.q (.faddr 3 (.t 11))),none,0⟩,
⟨(some 39),(.q (.ld false 1 (.t 38))),none,0⟩,
⟨(some 40),(.q (.lenSl (.t 39))),none,0⟩,
⟨(some 41),(.q (.mv (.c (.int .i64 (.ofNat 0))))),none,0⟩])
(.block 0 (.loop (.seq (.reg [⟨(some 42),(.q (.bin .lss (.p .int) (.t 41) (.t 40))),none,0⟩])
(.seq (.cond (.t 42) .skip (.exit 0))
(.seq (.block 1 (.seq (.reg [⟨(some 43),(.q (.mv (.t 41))),none,0⟩,
⟨(some 44),(.q (.iaddr (.slice 1) (.t 39) (.t 41))),none,0⟩,
⟨(some 45),(.q (.ld false 1 (.t 44))),none,0⟩,
⟨(some 13),(.q (.mv (.t 43))),none,0⟩,
⟨(some 14),(.q (.mv (.t 45))),none,0⟩])
(.reg [⟨(some 46),(.q (.mv (.t 12))),none,0⟩,
⟨(some 47),(.q (.faddr 1 (.t 4))),none,0⟩,
⟨(some 48),(.q (.ld false 1 (.t 47))),none,0⟩,
⟨(some 49),(.q (.faddr 2 (.t 11))),none,0⟩,
⟨(some 50),(.q (.ld false 1 (.t 49))),none,0⟩,
⟨(some 51),(.q (.iaddr (.slice 1) (.t 48) (.t 50))),none,0⟩,
⟨(some 52),(.q (.ld false 1 (.t 51))),none,0⟩,
⟨(some 53),(.q (.mv (.t 13))),none,0⟩,
⟨(some 54),(.q (.iaddr (.slice 1) (.t 52) (.t 53))),none,0⟩,
⟨(some 55),(.q (.ld false 1 (.t 54))),none,0⟩,
⟨(some 56),(.q (.mv (.t 14))),none,0⟩,
⟨(some 57),(.q (.iaddr (.slice 1) (.t 46) (.t 55))),none,0⟩,
⟨none,(.x (.st 1 (.t 57) (.t 56))),none,0⟩])))
(.reg [⟨(some 58),(.q (.bin .add (.p .int) (.t 41) (.c (.int .i64 (.ofNat 1))))),none,0⟩,
⟨(some 41),(.q (.mv (.t 58))),none,0⟩])))))))
(.seq (.reg [⟨(some 59),(.q (.faddr 0 (.t 4))),none,0⟩,
⟨(some 60),(.q (.ld false 1 (.t 59))),none,0⟩,
⟨(some 61),(.q (.faddr 2 (.t 11))),none,0⟩,
⟨(some 62),(.q (.ld false 1 (.t 61))),none,0⟩,
⟨(some 63),(.q (.iaddr (.slice 1) (.t 60) (.t 62))),none,0⟩,
⟨(some 64),(.q (.ld false 1 (.t 63))),none,0⟩,
⟨(some 15),(.q (.mv (.t 64))),none,0⟩])
(.seq (.reg [⟨(some 66),(.q (.ld false 1 (.t 5))),none,0⟩,
⟨(some 67),(.q (.mv (.t 15))),none,0⟩,
⟨(some 68),(.q (.lookup (.p .int) (.int .i64 (.ofNat 0)) true (.t 66) (.t 67))),none,0⟩,
⟨(some 65),(.q (.mv (.t 68))),none,0⟩,
⟨(some 69),(.q (.extract (.t 65) 0)),none,0⟩,
⟨(some 70),(.q (.extract (.t 65) 1)),none,0⟩,
⟨(some 16),(.q (.mv (.t 69))),none,0⟩,
⟨(some 17),(.q (.mv (.t 70))),none,0⟩])
(.seq (.seq (.reg [⟨(some 71),(.q (.mv (.t 17))),none,0⟩,
⟨(some 72),(.q (.un .not (.t 71))),none,0⟩])
(.cond (.t 72) (.seq (.reg [⟨(some 73),(.q (.ld false 1 (.t 6))),none,0⟩,
⟨(some 74),(.q (.lenSl (.t 73))),none,0⟩,
⟨(some 16),(.q (.mv (.t 74))),none,0⟩])
(.seq (.reg [⟨(some 75),(.q (.ld false 1 (.t 5))),none,0⟩,
⟨(some 76),(.q (.mv (.t 15))),none,0⟩,
⟨(some 77),(.q (.mv (.t 16))),none,0⟩,
⟨none,(.x (.mapUpd (.p .int) (.t 75) (.t 76) (.t 77))),none,0⟩])
(.drw [⟨(some 78),(.q (.ld false 1 (.t 6))),none,0⟩,
⟨(some 79),(.q (.faddr 2 (.t 3))),none,0⟩,
⟨(some 80),(.q (.ld false 1 (.t 79))),none,2⟩,
⟨(some 81),(.q (.mv (.t 15))),none,0⟩,
⟨(some 82),(.q (.iaddr (.slice 2) (.t 80) (.t 81))),none,14⟩,
⟨(some 83),(.q (.ld true 2 (.t 82))),none,30⟩,
⟨(some 84),(.a (.bslice 46 2 1 [(.int .i64 (.ofNat 0)),(.int .i64 (.ofNat 0))] [(0,(.t 83))])),none,62⟩,
⟨(some 85),(.x (.app 46 2 16 (.t 78) (.t 84))),none,127⟩,
⟨none,(.x (.st 1 (.t 6) (.t 85))),none,255⟩]))) .skip))
(.reg [⟨(some 86),(.q (.mv (.t 16))),none,0⟩,
⟨(some 87),(.q (.faddr 2 (.t 11))),none,0⟩,
⟨none,(.x (.st 1 (.t 87) (.t 86))),none,0⟩]))))) .skip))
(.seq (.drw [⟨(some 88),(.q (.faddr 4 (.t 11))),none,0⟩,
⟨(some 89),(.q (.ld false 1 (.t 88))),none,1⟩,
⟨(some 90),(.x (.call (.c (.fn 62 [] [])) [(.t 89)])),none,3⟩,
⟨(some 91),(.q (.faddr 5 (.t 11))),none,0⟩,
⟨(some 92),(.q (.ld false 1 (.t 91))),none,8⟩,
⟨(some 93),(.x (.call (.c (.fn 62 [] [])) [(.t 92)])),none,31⟩,
⟨(some 94),(.q (.faddr 3 (.t 11))),none,27⟩,
⟨none,(.x (.st 1 (.t 94) (.c .nilsl))),none,127⟩,
⟨(some 95),(.q (.faddr 4 (.t 11))),none,255⟩,
⟨none,(.x (.st 1 (.t 95) (.t 90))),none,511⟩,
⟨(some 96),(.q (.faddr 5 (.t 11))),none,1023⟩,
⟨none,(.x (.st 1 (.t 96) (.t 93))),none,2047⟩])
(.seq (.reg [⟨(some 97),(.q (.ld false 1 (.t 1))),none,0⟩,
⟨(some 98),(.q (.ld true 6 (.t 11))),none,0⟩,
⟨(some 99),(.a (.bslice 56 6 1 [(.int .i64 (.ofNat 0)),(.int .i64 (.ofNat 0)),(.int .i64 (.ofNat 0)),.nilsl,.nilsl,.nilsl] [(0,(.t 98))])),none,0⟩,
⟨(some 100),(.x (.app 56 6 96 (.t 97) (.t 99))),none,0⟩,
⟨none,(.x (.st 1 (.t 1) (.t 100))),none,0⟩])
(.seq (.seq (.reg [⟨(some 101),(.q (.mv (.t 12))),none,0⟩,
⟨(some 102),(.q (.lenSl (.t 101))),none,0⟩,
⟨(some 103),(.q (.mv (.c (.int .i64 (.ofNat 0))))),none,0⟩])
(.block 2 (.loop (.seq (.reg [⟨(some 104),(.q (.bin .lss (.p .int) (.t 103) (.t 102))),none,0⟩])
(.seq (.cond (.t 104) .skip (.exit 2))
(.seq (.block 3 (.seq (.reg [⟨(some 105),(.q (.iaddr (.slice 1) (.t 101) (.t 103))),none,0⟩,
⟨(some 106),(.q (.ld false 1 (.t 105))),none,0⟩,
⟨(some 19),(.q (.mv (.t 106))),none,0⟩])
(.seq (.reg [⟨(some 107),(.q (.ld false 1 (.t 7))),none,0⟩,
⟨(some 108),(.q (.mv (.t 19))),none,0⟩,
⟨(some 109),(.x (.call (.t 107) [(.t 108)])),none,0⟩,
⟨(some 20),(.q (.mv (.t 109))),none,0⟩])
(.drw [⟨(some 110),(.q (.ld false 1 (.t 1))),none,0⟩,
⟨(some 111),(.q (.mv (.t 10))),none,0⟩,
⟨(some 112),(.q (.ld false 1 (.t 1))),none,0⟩,
⟨(some 113),(.q (.mv (.t 10))),none,0⟩,
⟨(some 114),(.q (.iaddr (.slice 6) (.t 112) (.t 113))),none,12⟩,
⟨(some 115),(.q (.faddr 3 (.t 114))),none,28⟩,
⟨(some 116),(.q (.ld false 1 (.t 115))),none,60⟩,
⟨(some 117),(.q (.mv (.t 20))),none,0⟩,
⟨(some 118),(.a (.bslice 3 1 1 [(.int .i64 (.ofNat 0))] [(0,(.t 117))])),none,128⟩,
⟨(some 119),(.x (.app 3 1 8 (.t 116) (.t 118))),none,508⟩,
⟨(some 120),(.q (.iaddr (.slice 6) (.t 110) (.t 111))),none,1023⟩,
⟨(some 121),(.q (.faddr 3 (.t 120))),none,2047⟩,
⟨none,(.x (.st 1 (.t 121) (.t 119))),none,4095⟩]))))
(.reg [⟨(some 122),(.q (.bin .add (.p .int) (.t 103) (.c (.int .i64 (.ofNat 1))))),none,0⟩,
⟨(some 103),(.q (.mv (.t 122))),none,0⟩])))))))
(.seq (.reg [⟨(some 123),(.q (.mv (.t 10))),none,0⟩,
⟨(some 9),(.q (.mv (.t 123))),none,0⟩])
.ret))))))))))⟩
theorem row61 : Row Try.prog (61, a61) := ⟨Try.f61, Try.func61, by kernel_rfl⟩
noncomputable def a62 : AFn :=
⟨8,[(.t 2)],(.seq (.reg [⟨(some 2),(.q (.mv (.c .nilsl))),none,0⟩])
(.seq (.seq (.reg [⟨(some 3),(.q (.mv (.t 0))),none,0⟩,
⟨(some 4),(.q (.bin .eql (.p .slice) (.t 3) (.c .nilsl))),none,0⟩])
(.cond (.t 4) (.seq (.reg [⟨(some 2),(.q (.mv (.c .nilsl))),none,0⟩])
.ret) .skip))
(.seq (.reg [⟨(some 5),(.a (.bslice 3 1 0 [(.int .i64 (.ofNat 0))] [])),none,0⟩,
⟨(some 6),(.q (.mv (.t 0))),none,0⟩,
⟨(some 7),(.x (.app 3 1 8 (.t 5) (.t 6))),none,0⟩,
⟨(some 2),(.q (.mv (.t 7))),none,0⟩])
.ret)))⟩
theorem row62 : Row Try.prog (62, a62) := ⟨Try.f62, Try.func62, by kernel_rfl⟩
noncomputable def a72 : AFn :=
⟨32,[(.t 6)],(.seq (.reg [⟨(some 6),(.q (.mv (.c (.bool false)))),none,0⟩])
(.seq (.seq (.reg [⟨(some 10),(.q (.mv (.t 0))),none,0⟩,
⟨(some 11),(.q (.lenSl (.t 10))),none,0⟩,
⟨(some 12),(.q (.mv (.t 1))),none,0⟩,
⟨(some 13),(.q (.lenSl (.t 12))),none,0⟩,
⟨(some 14),(.q (.bin .neq (.p .int) (.t 11) (.t 13))),none,0⟩])
(.cond (.t 14) (.seq (.reg [⟨(some 6),(.q (.mv (.c (.bool false)))),none,0⟩])
.ret) .skip))
(.seq (.seq (.reg [⟨(some 15),(.q (.mv (.t 0))),none,0⟩,
⟨(some 16),(.q (.lenSl (.t 15))),none,0⟩,
⟨(some 17),(.q (.mv (.c (.int .i64 (.ofNat 0))))),none,0⟩])
(.block 0 (.loop (.seq (.reg [⟨(some 18),(.q (.bin .lss (.p .int) (.t 17) (.t 16))),none,0⟩])
(.seq (.cond (.t 18) .skip (.exit 0))
(.seq (.block 1 (.seq (.reg [⟨(some 19),(.q (.mv (.t 17))),none,0⟩,
⟨(some 20),(.q (.iaddr (.slice 2) (.t 15) (.t 17))),none,0⟩,
⟨(some 21),(.q (.ld true 2 (.t 20))),none,0⟩,
⟨(some 8),(.a (.alloc 46 [(.int .i64 (.ofNat 0)),(.int .i64 (.ofNat 0))])),none,0⟩,
⟨(some 7),(.q (.mv (.t 19))),none,0⟩,
⟨none,(.x (.st 2 (.t 8) (.t 21))),none,0⟩])
(.seq (.reg [⟨(some 22),(.q (.mv (.t 1))),none,0⟩,
⟨(some 23),(.q (.mv (.t 7))),none,0⟩,
⟨(some 24),(.q (.iaddr (.slice 1) (.t 22) (.t 23))),none,0⟩,
⟨(some 25),(.q (.ld false 1 (.t 24))),none,0⟩,
⟨(some 9),(.q (.mv (.t 25))),none,0⟩])
(.seq (.reg [⟨(some 26),(.q (.mv (.t 2))),none,0⟩,
⟨(some 27),(.q (.ld true 2 (.t 8))),none,0⟩,
⟨(some 28),(.q (.mv (.t 9))),none,0⟩,
⟨(some 29),(.x (.call (.t 26) [(.t 27),(.t 28)])),none,0⟩,
⟨(some 30),(.q (.un .not (.t 29))),none,0⟩])
(.cond (.t 30) (.seq (.reg [⟨(some 6),(.q (.mv (.c (.bool false)))),none,0⟩])
.ret) .skip)))))
(.reg [⟨(some 31),(.q (.bin .add (.p .int) (.t 17) (.c (.int .i64 (.ofNat 1))))),none,0⟩,
⟨(some 17),(.q (.mv (.t 31))),none,0⟩])))))))
(.seq (.reg [⟨(some 6),(.q (.mv (.c (.bool true)))),none,0⟩])
.ret))))⟩
theorem row72 : Row Try.prog (72, a72) := ⟨Try.f72, Try.func72, by kernel_rfl⟩
noncomputable def a73 : AFn :=
⟨10,[(.t 4)],(.seq (.reg [⟨(some 2),(.a (.box 46 (.t 0))),none,0⟩,
⟨(some 4),(.q (.mv (.c (.bool false)))),none,0⟩])
(.seq (.reg [⟨(some 5),(.q (.faddr 1 (.t 2))),none,0⟩,
⟨(some 6),(.q (.ld false 1 (.t 5))),none,0⟩,
⟨(some 7),(.q (.mv (.t 1))),none,0⟩,
⟨(some 8),(.q (.lenSl (.t 7))),none,0⟩,
⟨(some 9),(.q (.bin .eql (.p .int) (.t 6) (.t 8))),none,0⟩,
⟨(some 4),(.q (.mv (.t 9))),none,0⟩])
.ret))⟩
theorem row73 : Row Try.prog (73, a73) := ⟨Try.f73, Try.func73, by kernel_rfl⟩
noncomputable def a74 : AFn :=
⟨25,[],(.seq (.reg [⟨(some 6),(.q (.ld false 1 (.t 1))),none,0⟩,
⟨(some 7),(.q (.lenSl (.t 6))),none,0⟩,
⟨(some 8),(.q (.mv (.c (.int .i64 (.ofNat 0))))),none,0⟩])
(.block 0 (.loop (.seq (.reg [⟨(some 9),(.q (.bin .lss (.p .int) (.t 8) (.t 7))),none,0⟩])
(.seq (.cond (.t 9) .skip (.exit 0))
(.seq (.block 1 (.seq (.reg [⟨(some 10),(.q (.mv (.t 8))),none,0⟩,
⟨(some 11),(.q (.iaddr (.slice 2) (.t 6) (.t 8))),none,0⟩,
⟨(some 12),(.q (.ld true 2 (.t 11))),none,0⟩,
⟨(some 4),(.a (.alloc 46 [(.int .i64 (.ofNat 0)),(.int .i64 (.ofNat 0))])),none,0⟩,
⟨(some 3),(.q (.mv (.t 10))),none,0⟩,
⟨none,(.x (.st 2 (.t 4) (.t 12))),none,0⟩])
(.seq (.reg [⟨(some 13),(.q (.faddr 1 (.t 4))),none,0⟩,
⟨(some 14),(.q (.ld false 1 (.t 13))),none,0⟩,
⟨(some 15),(.q (.mv (.c (.int .i64 (.ofNat 0))))),none,0⟩])
(.block 2 (.loop (.seq (.reg [⟨(some 16),(.q (.bin .lss (.p .int) (.t 15) (.t 14))),none,0⟩])
(.seq (.cond (.t 16) .skip (.exit 2))
(.seq (.block 3 (.seq (.reg [⟨(some 17),(.q (.mv (.t 15))),none,0⟩,
⟨(some 5),(.q (.mv (.t 17))),none,0⟩])
(.seq (.reg [⟨(some 18),(.q (.mv (.t 0))),none,0⟩,
⟨(some 19),(.q (.mv (.t 3))),none,0⟩,
⟨(some 20),(.q (.mv (.t 5))),none,0⟩,
⟨(some 21),(.x (.call (.t 18) [(.t 19),(.t 20)])),none,0⟩,
⟨(some 22),(.q (.un .not (.t 21))),none,0⟩])
(.cond (.t 22) .ret .skip))))
(.reg [⟨(some 23),(.q (.bin .add (.p .int) (.t 15) (.c (.int .i64 (.ofNat 1))))),none,0⟩,
⟨(some 15),(.q (.mv (.t 23))),none,0⟩])))))))))
(.reg [⟨(some 24),(.q (.bin .add (.p .int) (.t 8) (.c (.int .i64 (.ofNat 1))))),none,0⟩,
⟨(some 8),(.q (.mv (.t 24))),none,0⟩])))))))⟩
theorem row74 : Row Try.prog (74, a74) := ⟨Try.f74, Try.func74, by kernel_rfl⟩
noncomputable def a75 : AFn :=
⟨8,[(.t 2)],(.seq (.reg [⟨(some 2),(.q (.mv (.c .nilsl))),none,0⟩])
(.seq (.seq (.reg [⟨(some 3),(.q (.mv (.t 0))),none,0⟩,
⟨(some 4),(.q (.bin .eql (.p .slice) (.t 3) (.c .nilsl))),none,0⟩])
(.cond (.t 4) (.seq (.reg [⟨(some 2),(.q (.mv (.c .nilsl))),none,0⟩])
.ret) .skip))
(.seq (.reg [⟨(some 5),(.a (.bslice 62 1 0 [(.int .u32 (.ofNat 0))] [])),none,0⟩,
⟨(some 6),(.q (.mv (.t 0))),none,0⟩,
⟨(some 7),(.x (.app 62 1 4 (.t 5) (.t 6))),none,0⟩,
⟨(some 2),(.q (.mv (.t 7))),none,0⟩])
.ret)))⟩
theorem row75 : Row Try.prog (75, a75) := ⟨Try.f75, Try.func75, by kernel_rfl⟩
noncomputable def a76 : AFn :=
⟨24,[(.t 4)],(.seq (.reg [⟨(some 2),(.a (.box 60 (.t 0))),none,0⟩,
⟨(some 3),(.a (.box 60 (.t 1))),none,0⟩,
⟨(some 4),(.q (.mv (.c (.bool false)))),none,0⟩])
(.seq (.reg [⟨(some 5),(.q (.faddr 0 (.t 2))),none,0⟩,
⟨(some 6),(.q (.ld false 1 (.t 5))),none,0⟩,
⟨(some 7),(.q (.faddr 0 (.t 3))),none,0⟩,
⟨(some 8),(.q (.ld false 1 (.t 7))),none,0⟩,
⟨(some 9),(.q (.bin .eql (.p .bool) (.t 6) (.t 8))),none,0⟩,
⟨(some 10),(.q (.mv (.t 9))),none,0⟩,
⟨(some 11),(.q (.faddr 1 (.t 2))),(some (10,true)),0⟩,
⟨(some 12),(.q (.ld false 1 (.t 11))),(some (10,true)),0⟩,
⟨(some 13),(.q (.faddr 1 (.t 3))),(some (10,true)),0⟩,
⟨(some 14),(.q (.ld false 1 (.t 13))),(some (10,true)),0⟩,
⟨(some 15),(.x (.call (.c (.fn 88 [] [])) [(.t 12),(.t 14)])),(some (10,true)),0⟩,
⟨(some 16),(.q (.pick (.t 10) (.t 15) (.c (.bool false)))),none,0⟩,
⟨(some 17),(.q (.mv (.t 16))),none,0⟩,
⟨(some 18),(.q (.faddr 2 (.t 2))),(some (17,true)),0⟩,
⟨(some 19),(.q (.ld false 1 (.t 18))),(some (17,true)),0⟩,
⟨(some 20),(.q (.faddr 2 (.t 3))),(some (17,true)),0⟩,
⟨(some 21),(.q (.ld false 1 (.t 20))),(some (17,true)),0⟩,
⟨(some 22),(.x (.call (.c (.fn 88 [] [])) [(.t 19),(.t 21)])),(some (17,true)),0⟩,
⟨(some 23),(.q (.pick (.t 17) (.t 22) (.c (.bool false)))),none,0⟩,
⟨(some 4),(.q (.mv (.t 23))),none,0⟩])
.ret))⟩
theorem row76 : Row Try.prog (76, a76) := ⟨Try.f76, Try.func76, by kernel_rfl⟩
noncomputable def a77 : AFn :=
⟨26,[(.t 4)],(.seq (.reg [⟨(some 4),(.q (.mv (.c (.bool false)))),none,0⟩])
(.seq (.seq (.reg [⟨(some 6),(.q (.mv (.t 0))),none,0⟩,
⟨(some 7),(.q (.lenSl (.t 6))),none,0⟩,
⟨(some 8),(.q (.mv (.t 1))),none,0⟩,
⟨(some 9),(.q (.lenSl (.t 8))),none,0⟩,
⟨(some 10),(.q (.bin .neq (.p .int) (.t 7) (.t 9))),none,0⟩])
(.cond (.t 10) (.seq (.reg [⟨(some 4),(.q (.mv (.c (.bool false)))),none,0⟩])
.ret) .skip))
(.seq (.seq (.reg [⟨(some 5),(.q (.mv (.c (.int .i64 (.ofNat 0))))),none,0⟩])
(.block 0 (.loop (.seq (.seq (.reg [⟨(some 11),(.q (.mv (.t 5))),none,0⟩,
⟨(some 12),(.q (.mv (.t 0))),none,0⟩,
⟨(some 13),(.q (.lenSl (.t 12))),none,0⟩,
⟨(some 14),(.q (.bin .lss (.p .int) (.t 11) (.t 13))),none,0⟩])
(.cond (.t 14) .skip (.exit 0)))
(.seq (.block 1 (.seq (.drw [⟨(some 17),(.q (.mv (.t 0))),none,0⟩,
⟨(some 18),(.q (.mv (.t 5))),none,0⟩,
⟨(some 19),(.q (.iaddr (.slice 1) (.t 17) (.t 18))),none,3⟩,
⟨(some 20),(.q (.ld false 1 (.t 19))),none,7⟩,
⟨(some 21),(.q (.mv (.t 1))),none,0⟩,
⟨(some 22),(.q (.mv (.t 5))),none,0⟩,
⟨(some 23),(.q (.iaddr (.slice 1) (.t 21) (.t 22))),none,48⟩,
⟨(some 24),(.q (.ld false 1 (.t 23))),none,112⟩,
⟨(some 25),(.q (.bin .neq (.p .int) (.t 20) (.t 24))),none,255⟩])
(.cond (.t 25) (.seq (.reg [⟨(some 4),(.q (.mv (.c (.bool false)))),none,0⟩])
.ret) .skip)))
(.reg [⟨(some 15),(.q (.mv (.t 5))),none,0⟩,
⟨(some 16),(.q (.bin .add (.p .int) (.t 15) (.c (.int .i64 (.ofNat 1))))),none,0⟩,
⟨(some 5),(.q (.mv (.t 16))),none,0⟩]))))))
(.seq (.reg [⟨(some 4),(.q (.mv (.c (.bool true)))),none,0⟩])
.ret))))⟩
theorem row77 : Row Try.prog (77, a77) := ⟨Try.f77, Try.func77, by kernel_rfl⟩
noncomputable def a78 : AFn :=
⟨87,[(.t 2),(.t 3)],(.seq (.reg [⟨(some 1),(.a (.box 25 (.t 0))),none,0⟩,
⟨(some 2),(.q (.mv (.c .nilp))),none,0⟩,
⟨(some 3),(.q (.mv (.c (.int .i64 (.ofNat 0))))),none,0⟩])
(.seq (.reg [⟨(some 12),(.q (.ld true 3 (.t 1))),none,0⟩,
⟨(some 13),(.x (.call (.c (.fn 89 [] [])) [(.t 12)])),none,0⟩,
⟨(some 11),(.q (.mv (.t 13))),none,0⟩,
⟨(some 14),(.q (.extract (.t 11) 0)),none,0⟩,
⟨(some 15),(.q (.extract (.t 11) 1)),none,0⟩,
⟨(some 4),(.q (.mv (.t 14))),none,0⟩,
⟨(some 5),(.q (.mv (.t 15))),none,0⟩])
(.seq (.seq (.reg [⟨(some 16),(.q (.mv (.t 5))),none,0⟩,
⟨(some 17),(.q (.bin .neq (.p .int) (.t 16) (.c (.int .i64 (.ofNat 0))))),none,0⟩])
(.cond (.t 17) (.seq (.reg [⟨(some 18),(.q (.mv (.t 5))),none,0⟩,
⟨(some 2),(.q (.mv (.c .nilp))),none,0⟩,
⟨(some 3),(.q (.mv (.t 18))),none,0⟩])
.ret) .skip))
(.seq (.reg [⟨(some 19),(.q (.faddr 1 (.t 1))),none,0⟩,
⟨(some 20),(.q (.ld false 1 (.t 19))),none,0⟩,
⟨(some 21),(.q (.lenSl (.t 20))),none,0⟩,
⟨(some 6),(.q (.mv (.t 21))),none,0⟩])
(.seq (.drw [⟨(some 22),(.q (.ld true 3 (.t 1))),none,0⟩,
⟨(some 23),(.q (.mv (.t 4))),none,0⟩,
⟨(some 24),(.q (.mv (.t 6))),none,0⟩,
⟨(some 25),(.a (.mkSlice 3 1 8 [(.int .i64 (.ofNat 0))] (.t 24) (.t 24))),none,4⟩,
⟨(some 26),(.q (.mv (.t 6))),none,0⟩,
⟨(some 27),(.a (.mkSlice 3 1 8 [(.int .i64 (.ofNat 0))] (.t 26) (.t 26))),none,16⟩,
⟨(some 28),(.q (.build [(.int .i64 (.ofNat 0)),.nilsl,.nilsl,.nilsl,.nilsl,.nilsl] [(0,3,(.t 22)),(3,1,(.t 23)),(4,1,(.t 25)),(5,1,(.t 27))])),none,63⟩,
⟨(some 29),(.a (.box 163 (.t 28))),none,127⟩,
⟨(some 7),(.q (.mv (.t 29))),none,255⟩])
(.seq (.seq (.reg [⟨(some 30),(.q (.mv (.t 6))),none,0⟩,
⟨(some 31),(.q (.bin .sub (.p .int) (.t 30) (.c (.int .i64 (.ofNat 1))))),none,0⟩,
⟨(some 8),(.q (.mv (.t 31))),none,0⟩])
(.block 0 (.loop (.seq (.seq (.reg [⟨(some 32),(.q (.mv (.t 8))),none,0⟩,
⟨(some 33),(.q (.bin .geq (.p .int) (.t 32) (.c (.int .i64 (.ofNat 0))))),none,0⟩])
(.cond (.t 33) .skip (.exit 0)))
(.seq (.block 1 (.seq (.reg [⟨(some 36),(.q (.mv (.t 7))),none,0⟩,
⟨(some 37),(.q (.nilchk (.t 36))),none,0⟩,
⟨(some 38),(.q (.faddr 5 (.t 37))),none,0⟩,
⟨(some 39),(.q (.ld false 1 (.t 38))),none,0⟩,
⟨(some 40),(.q (.mv (.t 8))),none,0⟩,
⟨(some 41),(.q (.iaddr (.slice 1) (.t 39) (.t 40))),none,0⟩,
⟨(some 42),(.q (.ld false 1 (.t 41))),none,0⟩,
⟨(some 43),(.q (.bin .add (.p .int) (.t 42) (.c (.int .i64 (.ofNat 1))))),none,0⟩,
⟨(some 44),(.q (.iaddr (.slice 1) (.t 39) (.t 40))),none,0⟩,
⟨none,(.x (.st 1 (.t 44) (.t 43))),none,0⟩])
(.seq (.seq (.reg [⟨(some 45),(.q (.mv (.t 8))),none,0⟩,
⟨(some 46),(.q (.bin .gtr (.p .int) (.t 45) (.c (.int .i64 (.ofNat 0))))),none,0⟩])
(.cond (.t 46) (.drw [⟨(some 47),(.q (.mv (.t 7))),none,0⟩,
⟨(some 48),(.q (.nilchk (.t 47))),none,1⟩,
⟨(some 49),(.q (.faddr 5 (.t 48))),none,3⟩,
⟨(some 50),(.q (.ld false 1 (.t 49))),none,7⟩,
⟨(some 51),(.q (.mv (.t 4))),none,0⟩,
⟨(some 52),(.q (.mv (.t 8))),none,0⟩,
⟨(some 53),(.q (.iaddr (.slice 1) (.t 51) (.t 52))),none,48⟩,
⟨(some 54),(.q (.ld false 1 (.t 53))),none,112⟩,
⟨(some 55),(.q (.iaddr (.slice 1) (.t 50) (.t 54))),none,255⟩,
⟨(some 56),(.q (.ld false 1 (.t 55))),none,511⟩,
⟨(some 57),(.q (.mv (.t 7))),none,0⟩,
⟨(some 58),(.q (.nilchk (.t 57))),none,1024⟩,
⟨(some 59),(.q (.faddr 5 (.t 58))),none,3072⟩,
⟨(some 60),(.q (.ld false 1 (.t 59))),none,7168⟩,
⟨(some 61),(.q (.mv (.t 8))),none,0⟩,
⟨(some 62),(.q (.iaddr (.slice 1) (.t 60) (.t 61))),none,31744⟩,
⟨(some 63),(.q (.ld false 1 (.t 62))),none,64512⟩,
⟨(some 64),(.q (.bin .add (.p .int) (.t 56) (.t 63))),none,131071⟩,
⟨(some 65),(.q (.iaddr (.slice 1) (.t 50) (.t 54))),none,262143⟩,
⟨none,(.x (.st 1 (.t 65) (.t 64))),none,524287⟩]) .skip))
(.seq (.reg [⟨(some 66),(.q (.faddr 1 (.t 1))),none,0⟩,
⟨(some 67),(.q (.ld false 1 (.t 66))),none,0⟩,
⟨(some 68),(.q (.mv (.t 8))),none,0⟩,
⟨(some 69),(.q (.iaddr (.slice 6) (.t 67) (.t 68))),none,0⟩,
⟨(some 70),(.q (.faddr 3 (.t 69))),none,0⟩,
⟨(some 71),(.q (.ld false 1 (.t 70))),none,0⟩,
⟨(some 72),(.q (.lenSl (.t 71))),none,0⟩,
⟨(some 73),(.q (.mv (.c (.int .i64 (.ofNat 0))))),none,0⟩])
(.block 2 (.loop (.seq (.reg [⟨(some 74),(.q (.bin .lss (.p .int) (.t 73) (.t 72))),none,0⟩])
(.seq (.cond (.t 74) .skip (.exit 2))
(.seq (.block 3 (.seq (.reg [⟨(some 75),(.q (.mv (.t 73))),none,0⟩,
⟨(some 76),(.q (.iaddr (.slice 1) (.t 71) (.t 73))),none,0⟩,
⟨(some 77),(.q (.ld false 1 (.t 76))),none,0⟩,
⟨(some 9),(.q (.mv (.t 75))),none,0⟩,
⟨(some 10),(.q (.mv (.t 77))),none,0⟩])
(.reg [⟨(some 78),(.q (.mv (.t 7))),none,0⟩,
⟨(some 79),(.q (.nilchk (.t 78))),none,0⟩,
⟨(some 80),(.q (.faddr 4 (.t 79))),none,0⟩,
⟨(some 81),(.q (.ld false 1 (.t 80))),none,0⟩,
⟨(some 82),(.q (.mv (.t 10))),none,0⟩,
⟨(some 83),(.q (.mv (.t 9))),none,0⟩,
⟨(some 84),(.q (.iaddr (.slice 1) (.t 81) (.t 82))),none,0⟩,
⟨none,(.x (.st 1 (.t 84) (.t 83))),none,0⟩])))
(.reg [⟨(some 85),(.q (.bin .add (.p .int) (.t 73) (.c (.int .i64 (.ofNat 1))))),none,0⟩,
⟨(some 73),(.q (.mv (.t 85))),none,0⟩]))))))))))
(.reg [⟨(some 34),(.q (.mv (.t 8))),none,0⟩,
⟨(some 35),(.q (.bin .sub (.p .int) (.t 34) (.c (.int .i64 (.ofNat 1))))),none,0⟩,
⟨(some 8),(.q (.mv (.t 35))),none,0⟩]))))))
(.seq (.reg [⟨(some 86),(.q (.mv (.t 7))),none,0⟩,
⟨(some 2),(.q (.mv (.t 86))),none,0⟩,
⟨(some 3),(.q (.mv (.c (.int .i64 (.ofNat 0))))),none,0⟩])
.ret)))))))⟩
theorem row78 : Row Try.prog (78, a78) := ⟨Try.f78, Try.func78, by kernel_rfl⟩
noncomputable def a79 : AFn :=
⟨35,[(.t 4),(.t 5)],(.seq (.reg [⟨(some 4),(.q (.mv (.c .nilsl))),none,0⟩,
⟨(some 5),(.q (.mv (.c (.int .i64 (.ofNat 0))))),none,0⟩])
(.seq (.seq (.reg [⟨(some 11),(.q (.mv (.t 1))),none,0⟩,
⟨(some 12),(.q (.lenSl (.t 11))),none,0⟩,
⟨(some 13),(.q (.bin .gtr (.p .int) (.t 12) (.c (.int .i64 (.ofNat 16))))),none,0⟩])
(.cond (.t 13) (.seq (.reg [⟨(some 4),(.q (.mv (.c .nilsl))),none,0⟩,
⟨(some 5),(.q (.mv (.c (.int .i64 (.ofNat 4))))),none,0⟩])
.ret) .skip))
(.seq (.reg [⟨(some 6),(.q (.mv (.c .nilsl))),none,0⟩])
(.seq (.seq (.reg [⟨(some 14),(.q (.mv (.t 1))),none,0⟩,
⟨(some 15),(.q (.lenSl (.t 14))),none,0⟩,
⟨(some 16),(.q (.mv (.c (.int .i64 (.ofNat 0))))),none,0⟩])
(.block 0 (.loop (.seq (.reg [⟨(some 17),(.q (.bin .lss (.p .int) (.t 16) (.t 15))),none,0⟩])
(.seq (.cond (.t 17) .skip (.exit 0))
(.seq (.block 1 (.seq (.reg [⟨(some 18),(.q (.iaddr (.slice 1) (.t 14) (.t 16))),none,0⟩,
⟨(some 19),(.q (.ld false 1 (.t 18))),none,0⟩,
⟨(some 8),(.q (.mv (.t 19))),none,0⟩])
(.seq (.reg [⟨(some 21),(.q (.mv (.t 0))),none,0⟩,
⟨(some 22),(.q (.mv (.t 8))),none,0⟩,
⟨(some 23),(.x (.call (.c (.fn 81 [] [])) [(.t 21),(.t 22)])),none,0⟩,
⟨(some 20),(.q (.mv (.t 23))),none,0⟩,
⟨(some 24),(.q (.extract (.t 20) 0)),none,0⟩,
⟨(some 25),(.q (.extract (.t 20) 1)),none,0⟩,
⟨(some 9),(.a (.alloc 144 [.nilsl,.nilsl])),none,0⟩,
⟨none,(.x (.st 2 (.t 9) (.t 24))),none,0⟩,
⟨(some 10),(.q (.mv (.t 25))),none,0⟩])
(.seq (.seq (.reg [⟨(some 26),(.q (.mv (.t 10))),none,0⟩,
⟨(some 27),(.q (.bin .neq (.p .int) (.t 26) (.c (.int .i64 (.ofNat 0))))),none,0⟩])
(.cond (.t 27) (.seq (.reg [⟨(some 28),(.q (.mv (.t 10))),none,0⟩,
⟨(some 4),(.q (.mv (.c .nilsl))),none,0⟩,
⟨(some 5),(.q (.mv (.t 28))),none,0⟩])
.ret) .skip))
(.reg [⟨(some 29),(.q (.mv (.t 6))),none,0⟩,
⟨(some 30),(.q (.ld true 2 (.t 9))),none,0⟩,
⟨(some 31),(.a (.bslice 144 2 1 [.nilsl,.nilsl] [(0,(.t 30))])),none,0⟩,
⟨(some 32),(.x (.app 144 2 48 (.t 29) (.t 31))),none,0⟩,
⟨(some 6),(.q (.mv (.t 32))),none,0⟩])))))
(.reg [⟨(some 33),(.q (.bin .add (.p .int) (.t 16) (.c (.int .i64 (.ofNat 1))))),none,0⟩,
⟨(some 16),(.q (.mv (.t 33))),none,0⟩])))))))
(.seq (.reg [⟨(some 34),(.q (.mv (.t 6))),none,0⟩,
⟨(some 4),(.q (.mv (.t 34))),none,0⟩,
⟨(some 5),(.q (.mv (.c (.int .i64 (.ofNat 0))))),none,0⟩])
.ret)))))⟩
theorem row79 : Row Try.prog (79, a79) := ⟨Try.f79, Try.func79, by kernel_rfl⟩
noncomputable def a80 : AFn :=
⟨67,[(.t 4)],(.seq (.reg [⟨(some 4),(.q (.mv (.c .nilsl))),none,0⟩])
(.seq (.reg [⟨(some 13),(.q (.mv (.t 0))),none,0⟩,
⟨(some 14),(.a (.mkSlice 3 1 8 [(.int .i64 (.ofNat 0))] (.t 13) (.t 13))),none,0⟩,
⟨(some 15),(.q (.build [.nilsl] [(0,1,(.t 14))])),none,0⟩,
⟨(some 16),(.a (.box 166 (.t 15))),none,0⟩,
⟨(some 5),(.q (.mv (.t 16))),none,0⟩])
(.seq (.seq (.reg [⟨(some 17),(.q (.mv (.t 5))),none,0⟩,
⟨(some 18),(.q (.nilchk (.t 17))),none,0⟩,
⟨(some 19),(.q (.faddr 0 (.t 18))),none,0⟩,
⟨(some 20),(.q (.ld false 1 (.t 19))),none,0⟩,
⟨(some 21),(.q (.lenSl (.t 20))),none,0⟩,
⟨(some 22),(.q (.mv (.c (.int .i64 (.ofNat 0))))),none,0⟩])
(.block 0 (.loop (.seq (.reg [⟨(some 23),(.q (.bin .lss (.p .int) (.t 22) (.t 21))),none,0⟩])
(.seq (.cond (.t 23) .skip (.exit 0))
(.seq (.block 1 (.seq (.reg [⟨(some 24),(.q (.mv (.t 22))),none,0⟩,
⟨(some 6),(.q (.mv (.t 24))),none,0⟩])
(.reg [⟨(some 25),(.q (.mv (.t 5))),none,0⟩,
⟨(some 26),(.q (.nilchk (.t 25))),none,0⟩,
⟨(some 27),(.q (.faddr 0 (.t 26))),none,0⟩,
⟨(some 28),(.q (.ld false 1 (.t 27))),none,0⟩,
⟨(some 29),(.q (.mv (.t 6))),none,0⟩,
⟨(some 30),(.q (.mv (.t 6))),none,0⟩,
⟨(some 31),(.q (.iaddr (.slice 1) (.t 28) (.t 29))),none,0⟩,
⟨none,(.x (.st 1 (.t 31) (.t 30))),none,0⟩])))
(.reg [⟨(some 32),(.q (.bin .add (.p .int) (.t 22) (.c (.int .i64 (.ofNat 1))))),none,0⟩,
⟨(some 22),(.q (.mv (.t 32))),none,0⟩])))))))
(.seq (.seq (.reg [⟨(some 33),(.q (.mv (.t 1))),none,0⟩,
⟨(some 34),(.q (.lenSl (.t 33))),none,0⟩,
⟨(some 35),(.q (.mv (.c (.int .i64 (.ofNat 0))))),none,0⟩])
(.block 2 (.loop (.seq (.reg [⟨(some 36),(.q (.bin .lss (.p .int) (.t 35) (.t 34))),none,0⟩])
(.seq (.cond (.t 36) .skip (.exit 2))
(.seq (.block 3 (.seq (.reg [⟨(some 37),(.q (.iaddr (.slice 1) (.t 33) (.t 35))),none,0⟩,
⟨(some 38),(.q (.ld false 1 (.t 37))),none,0⟩,
⟨(some 8),(.q (.mv (.t 38))),none,0⟩])
(.seq (.reg [⟨(some 39),(.q (.mv (.t 8))),none,0⟩,
⟨(some 40),(.q (.lenSl (.t 39))),none,0⟩,
⟨(some 41),(.q (.mv (.c (.int .i64 (.ofNat 0))))),none,0⟩])
(.block 4 (.loop (.seq (.reg [⟨(some 42),(.q (.bin .lss (.p .int) (.t 41) (.t 40))),none,0⟩])
(.seq (.cond (.t 42) .skip (.exit 4))
(.seq (.block 5 (.seq (.reg [⟨(some 43),(.q (.mv (.t 41))),none,0⟩,
⟨(some 44),(.q (.iaddr (.slice 1) (.t 39) (.t 41))),none,0⟩,
⟨(some 45),(.q (.ld false 1 (.t 44))),none,0⟩,
⟨(some 9),(.q (.mv (.t 43))),none,0⟩,
⟨(some 10),(.q (.mv (.t 45))),none,0⟩])
(.reg [⟨(some 46),(.q (.mv (.t 5))),none,0⟩,
⟨(some 47),(.q (.mv (.t 9))),none,0⟩,
⟨(some 48),(.q (.mv (.t 10))),none,0⟩,
⟨(some 49),(.x (.call (.c (.fn 90 [] [])) [(.t 46),(.t 47),(.t 48)])),none,0⟩])))
(.reg [⟨(some 50),(.q (.bin .add (.p .int) (.t 41) (.c (.int .i64 (.ofNat 1))))),none,0⟩,
⟨(some 41),(.q (.mv (.t 50))),none,0⟩])))))))))
(.reg [⟨(some 51),(.q (.bin .add (.p .int) (.t 35) (.c (.int .i64 (.ofNat 1))))),none,0⟩,
⟨(some 35),(.q (.mv (.t 51))),none,0⟩])))))))
(.seq (.reg [⟨(some 52),(.q (.mv (.t 0))),none,0⟩,
⟨(some 53),(.a (.mkSlice 3 1 8 [(.int .i64 (.ofNat 0))] (.t 52) (.t 52))),none,0⟩,
⟨(some 11),(.q (.mv (.t 53))),none,0⟩])
(.seq (.seq (.reg [⟨(some 54),(.q (.mv (.t 11))),none,0⟩,
⟨(some 55),(.q (.lenSl (.t 54))),none,0⟩,
⟨(some 56),(.q (.mv (.c (.int .i64 (.ofNat 0))))),none,0⟩])
(.block 6 (.loop (.seq (.reg [⟨(some 57),(.q (.bin .lss (.p .int) (.t 56) (.t 55))),none,0⟩])
(.seq (.cond (.t 57) .skip (.exit 6))
(.seq (.block 7 (.seq (.reg [⟨(some 58),(.q (.mv (.t 56))),none,0⟩,
⟨(some 12),(.q (.mv (.t 58))),none,0⟩])
(.reg [⟨(some 59),(.q (.mv (.t 11))),none,0⟩,
⟨(some 60),(.q (.mv (.t 12))),none,0⟩,
⟨(some 61),(.q (.mv (.t 5))),none,0⟩,
⟨(some 62),(.q (.mv (.t 12))),none,0⟩,
⟨(some 63),(.x (.call (.c (.fn 91 [] [])) [(.t 61),(.t 62)])),none,0⟩,
⟨(some 64),(.q (.iaddr (.slice 1) (.t 59) (.t 60))),none,0⟩,
⟨none,(.x (.st 1 (.t 64) (.t 63))),none,0⟩])))
(.reg [⟨(some 65),(.q (.bin .add (.p .int) (.t 56) (.c (.int .i64 (.ofNat 1))))),none,0⟩,
⟨(some 56),(.q (.mv (.t 65))),none,0⟩])))))))
(.seq (.reg [⟨(some 66),(.q (.mv (.t 11))),none,0⟩,
⟨(some 4),(.q (.mv (.t 66))),none,0⟩])
.ret)))))))⟩
theorem row80 : Row Try.prog (80, a80) := ⟨Try.f80, Try.func80, by kernel_rfl⟩
end Go.Proofs.Ytfmgnnfghdjpfaa.abstractNames
