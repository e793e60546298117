/- The functions that RatKnown reaches, as data of the evaluator (part 3), written by program; each is shown to be the compiler's result on the loaded function. -/
import Derived.Test.YtopemogpgppjlaaDoorProg
import Derived.Test.YtopemogpgppjlaaDoorEv7
import Derived.KernelRfl
namespace Go.Proofs.YtopemogpgppjlaaDoor.ratKnown
open Go.Ev
set_option maxRecDepth 100000
noncomputable def a133 : AFn :=
⟨14,[(.t 2)],(.seq (.reg [⟨(some 2),(.q (.mv (.c (.int .i64 (.ofNat 0))))),none,0⟩])
(.seq (.seq (.reg [⟨(some 3),(.q (.mv (.t 0))),none,0⟩,
⟨(some 4),(.q (.bin .eql (.p .int) (.t 3) (.c (.int .u64 (.ofNat 0))))),none,0⟩])
(.cond (.t 4) (.seq (.reg [⟨(some 2),(.q (.mv (.c (.int .i64 (.ofNat 64))))),none,0⟩])
.ret) .skip))
(.seq (.reg [⟨(some 5),(.q (.mv (.t 0))),none,0⟩,
⟨(some 6),(.q (.mv (.t 0))),none,0⟩,
⟨(some 7),(.q (.un .neg (.t 6))),none,0⟩,
⟨(some 8),(.q (.bin .and (.p .int) (.t 5) (.t 7))),none,0⟩,
⟨(some 9),(.q (.bin .mul (.p .int) (.t 8) (.c (.int .u64 (.ofNat 285870213051353865))))),none,0⟩,
⟨(some 10),(.q (.bin .shr (.p .int) (.t 9) (.c (.int .u64 (.ofNat 58))))),none,0⟩,
⟨(some 11),(.q (.iaddr (.arr 64 1) (.c (.ptr 1 0)) (.t 10))),none,0⟩,
⟨(some 12),(.q (.ld false 1 (.t 11))),none,0⟩,
⟨(some 13),(.q (.conv (.int .i64) (.t 12))),none,0⟩,
⟨(some 2),(.q (.mv (.t 13))),none,0⟩])
.ret)))⟩
theorem row133 : Row Tryd.prog (133, a133) := ⟨Tryd.f133, Tryd.func133, by kernel_rfl⟩
noncomputable def a134 : AFn :=
⟨9,[(.t 4)],(.seq (.reg [⟨(some 4),(.q (.mv (.c (.bool false)))),none,0⟩])
(.seq (.reg [⟨(some 5),(.q (.mv (.t 0))),none,0⟩,
⟨(some 6),(.q (.mv (.t 1))),none,0⟩,
⟨(some 7),(.x (.call (.c (.fn 149 [] [])) [(.t 5),(.t 6)])),none,0⟩,
⟨(some 8),(.q (.bin .geq (.p .int) (.t 7) (.c (.int .i64 (.ofNat 0))))),none,0⟩,
⟨(some 4),(.q (.mv (.t 8))),none,0⟩])
.ret))⟩
theorem row134 : Row Tryd.prog (134, a134) := ⟨Tryd.f134, Tryd.func134, by kernel_rfl⟩
noncomputable def a135 : AFn :=
⟨23,[(.t 4),(.t 5),(.t 6)],(.seq (.reg [⟨(some 4),(.q (.mv (.c (.str [])))),none,0⟩,
⟨(some 5),(.q (.mv (.c (.str [])))),none,0⟩,
⟨(some 6),(.q (.mv (.c (.bool false)))),none,0⟩])
(.seq (.seq (.reg [⟨(some 8),(.q (.mv (.t 0))),none,0⟩,
⟨(some 9),(.q (.mv (.t 1))),none,0⟩,
⟨(some 10),(.x (.call (.c (.fn 150 [] [])) [(.t 8),(.t 9)])),none,0⟩,
⟨(some 7),(.q (.mv (.t 10))),none,0⟩])
(.seq (.reg [⟨(some 11),(.q (.mv (.t 7))),none,0⟩,
⟨(some 12),(.q (.bin .geq (.p .int) (.t 11) (.c (.int .i64 (.ofNat 0))))),none,0⟩])
(.cond (.t 12) (.seq (.drw [⟨(some 13),(.q (.mv (.t 0))),none,0⟩,
⟨(some 14),(.q (.mv (.t 7))),none,0⟩,
⟨(some 15),(.q (.slc .str (.t 13) none (some (.t 14)) none)),none,3⟩,
⟨(some 16),(.q (.mv (.t 0))),none,0⟩,
⟨(some 17),(.q (.mv (.t 7))),none,0⟩,
⟨(some 18),(.q (.mv (.t 1))),none,0⟩,
⟨(some 19),(.q (.lenStr (.t 18))),none,32⟩,
⟨(some 20),(.q (.bin .add (.p .int) (.t 17) (.t 19))),none,112⟩,
⟨(some 21),(.q (.slc .str (.t 16) (some (.t 20)) none none)),none,248⟩,
⟨(some 4),(.q (.mv (.t 15))),none,7⟩,
⟨(some 5),(.q (.mv (.t 21))),none,1023⟩,
⟨(some 6),(.q (.mv (.c (.bool true)))),none,2047⟩])
.ret) .skip)))
(.seq (.reg [⟨(some 22),(.q (.mv (.t 0))),none,0⟩,
⟨(some 4),(.q (.mv (.t 22))),none,0⟩,
⟨(some 5),(.q (.mv (.c (.str [])))),none,0⟩,
⟨(some 6),(.q (.mv (.c (.bool false)))),none,0⟩])
.ret)))⟩
theorem row135 : Row Tryd.prog (135, a135) := ⟨Tryd.f135, Tryd.func135, by kernel_rfl⟩
noncomputable def a136 : AFn :=
⟨15,[(.t 4),(.t 5)],(.seq (.reg [⟨(some 4),(.q (.mv (.c (.str [])))),none,0⟩,
⟨(some 5),(.q (.mv (.c (.bool false)))),none,0⟩])
(.seq (.seq (.reg [⟨(some 6),(.q (.mv (.t 0))),none,0⟩,
⟨(some 7),(.q (.mv (.t 1))),none,0⟩,
⟨(some 8),(.x (.call (.c (.fn 151 [] [])) [(.t 6),(.t 7)])),none,0⟩,
⟨(some 9),(.q (.un .not (.t 8))),none,0⟩])
(.cond (.t 9) (.seq (.reg [⟨(some 10),(.q (.mv (.t 0))),none,0⟩,
⟨(some 4),(.q (.mv (.t 10))),none,0⟩,
⟨(some 5),(.q (.mv (.c (.bool false)))),none,0⟩])
.ret) .skip))
(.seq (.reg [⟨(some 11),(.q (.mv (.t 0))),none,0⟩,
⟨(some 12),(.q (.mv (.t 1))),none,0⟩,
⟨(some 13),(.q (.lenStr (.t 12))),none,0⟩,
⟨(some 14),(.q (.slc .str (.t 11) (some (.t 13)) none none)),none,0⟩,
⟨(some 4),(.q (.mv (.t 14))),none,0⟩,
⟨(some 5),(.q (.mv (.c (.bool true)))),none,0⟩])
.ret)))⟩
theorem row136 : Row Tryd.prog (136, a136) := ⟨Tryd.f136, Tryd.func136, by kernel_rfl⟩
noncomputable def a147 : AFn :=
⟨28,[(.t 4)],(.seq (.reg [⟨(some 3),(.a (.box 23 (.t 0))),none,0⟩,
⟨(some 4),(.q (.mv (.c (.int .i64 (.ofNat 0))))),none,0⟩])
(.seq (.reg [⟨(some 6),(.q (.mkFunc 148 [] [(.t 3)])),none,0⟩,
⟨(some 5),(.q (.mv (.t 6))),none,0⟩])
(.seq (.drw [⟨(some 7),(.q (.mv (.t 5))),none,0⟩,
⟨(some 8),(.q (.ld false 1 (.t 1))),none,0⟩,
⟨(some 9),(.q (.bin .sub (.p .int) (.t 8) (.c (.int .i64 (.ofNat 1))))),none,2⟩,
⟨(some 10),(.x (.call (.t 7) [(.t 9)])),none,7⟩,
⟨(some 11),(.q (.bin .mul (.p .int) (.t 10) (.c (.int .u64 (.ofNat 1000000000))))),none,15⟩,
⟨(some 12),(.q (.mv (.t 5))),none,0⟩,
⟨(some 13),(.q (.ld false 1 (.t 1))),none,0⟩,
⟨(some 14),(.q (.bin .sub (.p .int) (.t 13) (.c (.int .i64 (.ofNat 2))))),none,64⟩,
⟨(some 15),(.x (.call (.t 12) [(.t 14)])),none,239⟩,
⟨(some 16),(.q (.bin .add (.p .int) (.t 11) (.t 15))),none,511⟩,
⟨(some 17),(.q (.ld false 1 (.t 2))),none,0⟩,
⟨(some 18),(.q (.bin .mul (.p .int) (.t 16) (.t 17))),none,2047⟩,
⟨(some 19),(.q (.mv (.t 5))),none,0⟩,
⟨(some 20),(.q (.ld false 1 (.t 1))),none,0⟩,
⟨(some 21),(.q (.bin .sub (.p .int) (.t 20) (.c (.int .i64 (.ofNat 3))))),none,8192⟩,
⟨(some 22),(.x (.call (.t 19) [(.t 21)])),none,29167⟩,
⟨(some 23),(.q (.ld false 1 (.t 2))),none,0⟩,
⟨(some 24),(.q (.bin .mul (.p .int) (.t 22) (.t 23))),none,127471⟩,
⟨(some 25),(.q (.bin .quo (.p .int) (.t 24) (.c (.int .u64 (.ofNat 1000000000))))),none,258543⟩,
⟨(some 26),(.q (.bin .add (.p .int) (.t 18) (.t 25))),none,524287⟩,
⟨(some 27),(.q (.conv (.int .i64) (.t 26))),none,1048575⟩,
⟨(some 4),(.q (.mv (.t 27))),none,2097151⟩])
.ret)))⟩
theorem row147 : Row Tryd.prog (147, a147) := ⟨Tryd.f147, Tryd.func147, by kernel_rfl⟩
noncomputable def a148 : AFn :=
⟨13,[(.t 3)],(.seq (.reg [⟨(some 3),(.q (.mv (.c (.int .u64 (.ofNat 0))))),none,0⟩])
(.seq (.seq (.reg [⟨(some 4),(.q (.mv (.t 0))),none,0⟩,
⟨(some 5),(.q (.ld false 1 (.t 1))),none,0⟩,
⟨(some 6),(.q (.lenSl (.t 5))),none,0⟩,
⟨(some 7),(.q (.bin .lss (.p .int) (.t 4) (.t 6))),none,0⟩])
(.cond (.t 7) (.seq (.reg [⟨(some 8),(.q (.ld false 1 (.t 1))),none,0⟩,
⟨(some 9),(.q (.mv (.t 0))),none,0⟩,
⟨(some 10),(.q (.iaddr (.slice 1) (.t 8) (.t 9))),none,0⟩,
⟨(some 11),(.q (.ld false 1 (.t 10))),none,0⟩,
⟨(some 12),(.q (.conv (.int .u64) (.t 11))),none,0⟩,
⟨(some 3),(.q (.mv (.t 12))),none,0⟩])
.ret) .skip))
(.seq (.reg [⟨(some 3),(.q (.mv (.c (.int .u64 (.ofNat 0))))),none,0⟩])
.ret)))⟩
theorem row148 : Row Tryd.prog (148, a148) := ⟨Tryd.f148, Tryd.func148, by kernel_rfl⟩
noncomputable def a149 : AFn :=
⟨8,[(.t 4)],(.seq (.reg [⟨(some 4),(.q (.mv (.c (.int .i64 (.ofNat 0))))),none,0⟩])
(.seq (.reg [⟨(some 5),(.q (.mv (.t 0))),none,0⟩,
⟨(some 6),(.q (.mv (.t 1))),none,0⟩,
⟨(some 7),(.x (.call (.c (.fn 150 [] [])) [(.t 5),(.t 6)])),none,0⟩,
⟨(some 4),(.q (.mv (.t 7))),none,0⟩])
.ret))⟩
theorem row149 : Row Tryd.prog (149, a149) := ⟨Tryd.f149, Tryd.func149, by kernel_rfl⟩
noncomputable def a150 : AFn :=
⟨143,[(.t 4)],(.seq (.reg [⟨(some 4),(.q (.mv (.c (.int .i64 (.ofNat 0))))),none,0⟩])
(.seq (.reg [⟨(some 14),(.q (.mv (.t 1))),none,0⟩,
⟨(some 15),(.q (.lenStr (.t 14))),none,0⟩,
⟨(some 5),(.q (.mv (.t 15))),none,0⟩])
(.seq (.block 0 (.seq (.reg [⟨(some 17),(.q (.mv (.t 5))),none,0⟩,
⟨(some 18),(.q (.bin .eql (.p .int) (.t 17) (.c (.int .i64 (.ofNat 0))))),none,0⟩,
⟨(some 19),(.q (.mv (.t 18))),none,0⟩,
⟨(some 20),(.q (.mv (.t 1))),(some (19,false)),0⟩,
⟨(some 21),(.q (.mv (.t 0))),(some (19,false)),0⟩,
⟨(some 22),(.q (.bin .eql (.p .str) (.t 20) (.t 21))),(some (19,false)),0⟩,
⟨(some 23),(.q (.pick (.t 19) (.c (.bool true)) (.t 22))),none,0⟩,
⟨(some 16),(.q (.mv (.t 23))),none,0⟩])
(.cond (.t 16) (.seq (.reg [⟨(some 4),(.q (.mv (.c (.int .i64 (.ofNat 0))))),none,0⟩])
.ret) (.seq (.reg [⟨(some 25),(.q (.mv (.t 5))),none,0⟩,
⟨(some 26),(.q (.bin .eql (.p .int) (.t 25) (.c (.int .i64 (.ofNat 1))))),none,0⟩,
⟨(some 24),(.q (.mv (.t 26))),none,0⟩])
(.cond (.t 24) (.seq (.reg [⟨(some 27),(.q (.mv (.t 0))),none,0⟩,
⟨(some 28),(.q (.mv (.t 1))),none,0⟩,
⟨(some 29),(.q (.idxStr (.t 28) (.c (.int .i64 (.ofNat 0))))),none,0⟩,
⟨(some 30),(.x (.call (.c (.fn 159 [] [])) [(.t 27),(.t 29)])),none,0⟩,
⟨(some 4),(.q (.mv (.t 30))),none,0⟩])
.ret) (.seq (.reg [⟨(some 32),(.q (.mv (.t 5))),none,0⟩,
⟨(some 33),(.q (.mv (.t 0))),none,0⟩,
⟨(some 34),(.q (.lenStr (.t 33))),none,0⟩,
⟨(some 35),(.q (.bin .geq (.p .int) (.t 32) (.t 34))),none,0⟩,
⟨(some 31),(.q (.mv (.t 35))),none,0⟩])
(.cond (.t 31) (.seq (.reg [⟨(some 4),(.q (.mv (.c (.int .i64 (.negSucc 0))))),none,0⟩])
.ret) (.seq (.reg [⟨(some 37),(.q (.mv (.t 5))),none,0⟩,
⟨(some 38),(.q (.ld false 1 (.c (.ptr 2 0)))),none,0⟩,
⟨(some 39),(.q (.bin .leq (.p .int) (.t 37) (.t 38))),none,0⟩,
⟨(some 40),(.q (.mv (.t 39))),none,0⟩,
⟨(some 41),(.q (.mv (.t 0))),(some (40,true)),0⟩,
⟨(some 42),(.q (.lenStr (.t 41))),(some (40,true)),0⟩,
⟨(some 43),(.q (.bin .leq (.p .int) (.t 42) (.c (.int .i64 (.ofNat 64))))),(some (40,true)),0⟩,
⟨(some 44),(.q (.pick (.t 40) (.t 43) (.c (.bool false)))),none,0⟩,
⟨(some 36),(.q (.mv (.t 44))),none,0⟩])
(.cond (.t 36) (.seq (.reg [⟨(some 45),(.q (.mv (.t 0))),none,0⟩,
⟨(some 46),(.q (.mv (.t 1))),none,0⟩,
⟨(some 47),(.x (.call (.c (.fn 160 [] [])) [(.t 45),(.t 46)])),none,0⟩,
⟨(some 4),(.q (.mv (.t 47))),none,0⟩])
.ret) .skip)))))))))
(.seq (.reg [⟨(some 48),(.q (.mv (.t 1))),none,0⟩,
⟨(some 49),(.q (.idxStr (.t 48) (.c (.int .i64 (.ofNat 0))))),none,0⟩,
⟨(some 6),(.q (.mv (.t 49))),none,0⟩])
(.seq (.reg [⟨(some 50),(.q (.mv (.t 1))),none,0⟩,
⟨(some 51),(.q (.idxStr (.t 50) (.c (.int .i64 (.ofNat 1))))),none,0⟩,
⟨(some 7),(.q (.mv (.t 51))),none,0⟩])
(.seq (.reg [⟨(some 8),(.q (.mv (.c (.int .i64 (.ofNat 0))))),none,0⟩])
(.seq (.reg [⟨(some 52),(.q (.mv (.t 0))),none,0⟩,
⟨(some 53),(.q (.lenStr (.t 52))),none,0⟩,
⟨(some 54),(.q (.mv (.t 5))),none,0⟩,
⟨(some 55),(.q (.bin .sub (.p .int) (.t 53) (.t 54))),none,0⟩,
⟨(some 56),(.q (.bin .add (.p .int) (.t 55) (.c (.int .i64 (.ofNat 1))))),none,0⟩,
⟨(some 9),(.q (.mv (.t 56))),none,0⟩])
(.seq (.reg [⟨(some 10),(.q (.mv (.c (.int .i64 (.ofNat 0))))),none,0⟩])
(.seq (.block 1 (.loop (.seq (.seq (.reg [⟨(some 57),(.q (.mv (.t 8))),none,0⟩,
⟨(some 58),(.q (.mv (.t 9))),none,0⟩,
⟨(some 59),(.q (.bin .lss (.p .int) (.t 57) (.t 58))),none,0⟩])
(.cond (.t 59) .skip (.exit 1)))
(.block 2 (.seq (.seq (.reg [⟨(some 60),(.q (.mv (.t 0))),none,0⟩,
⟨(some 61),(.q (.mv (.t 8))),none,0⟩,
⟨(some 62),(.q (.idxStr (.t 60) (.t 61))),none,0⟩,
⟨(some 63),(.q (.mv (.t 6))),none,0⟩,
⟨(some 64),(.q (.bin .neq (.p .int) (.t 62) (.t 63))),none,0⟩])
(.cond (.t 64) (.seq (.reg [⟨(some 65),(.q (.mv (.t 0))),none,0⟩,
⟨(some 66),(.q (.mv (.t 8))),none,0⟩,
⟨(some 67),(.q (.bin .add (.p .int) (.t 66) (.c (.int .i64 (.ofNat 1))))),none,0⟩,
⟨(some 68),(.q (.mv (.t 9))),none,0⟩,
⟨(some 69),(.q (.slc .str (.t 65) (some (.t 67)) (some (.t 68)) none)),none,0⟩,
⟨(some 70),(.q (.mv (.t 6))),none,0⟩,
⟨(some 71),(.x (.call (.c (.fn 159 [] [])) [(.t 69),(.t 70)])),none,0⟩,
⟨(some 11),(.q (.mv (.t 71))),none,0⟩])
(.seq (.seq (.reg [⟨(some 72),(.q (.mv (.t 11))),none,0⟩,
⟨(some 73),(.q (.bin .lss (.p .int) (.t 72) (.c (.int .i64 (.ofNat 0))))),none,0⟩])
(.cond (.t 73) (.seq (.reg [⟨(some 4),(.q (.mv (.c (.int .i64 (.negSucc 0))))),none,0⟩])
.ret) .skip))
(.reg [⟨(some 74),(.q (.mv (.t 8))),none,0⟩,
⟨(some 75),(.q (.mv (.t 11))),none,0⟩,
⟨(some 76),(.q (.bin .add (.p .int) (.t 75) (.c (.int .i64 (.ofNat 1))))),none,0⟩,
⟨(some 77),(.q (.bin .add (.p .int) (.t 74) (.t 76))),none,0⟩,
⟨(some 8),(.q (.mv (.t 77))),none,0⟩]))) .skip))
(.seq (.seq (.reg [⟨(some 78),(.q (.mv (.t 0))),none,0⟩,
⟨(some 79),(.q (.mv (.t 8))),none,0⟩,
⟨(some 80),(.q (.bin .add (.p .int) (.t 79) (.c (.int .i64 (.ofNat 1))))),none,0⟩,
⟨(some 81),(.q (.idxStr (.t 78) (.t 80))),none,0⟩,
⟨(some 82),(.q (.mv (.t 7))),none,0⟩,
⟨(some 83),(.q (.bin .eql (.p .int) (.t 81) (.t 82))),none,0⟩,
⟨(some 84),(.q (.mv (.t 83))),none,0⟩,
⟨(some 85),(.q (.mv (.t 0))),(some (84,true)),0⟩,
⟨(some 86),(.q (.mv (.t 8))),(some (84,true)),0⟩,
⟨(some 87),(.q (.mv (.t 8))),(some (84,true)),0⟩,
⟨(some 88),(.q (.mv (.t 5))),(some (84,true)),0⟩,
⟨(some 89),(.q (.bin .add (.p .int) (.t 87) (.t 88))),(some (84,true)),0⟩,
⟨(some 90),(.q (.slc .str (.t 85) (some (.t 86)) (some (.t 89)) none)),(some (84,true)),0⟩,
⟨(some 91),(.q (.mv (.t 1))),(some (84,true)),0⟩,
⟨(some 92),(.q (.bin .eql (.p .str) (.t 90) (.t 91))),(some (84,true)),0⟩,
⟨(some 93),(.q (.pick (.t 84) (.t 92) (.c (.bool false)))),none,0⟩])
(.cond (.t 93) (.seq (.reg [⟨(some 94),(.q (.mv (.t 8))),none,0⟩,
⟨(some 4),(.q (.mv (.t 94))),none,0⟩])
.ret) .skip))
(.seq (.reg [⟨(some 95),(.q (.mv (.t 8))),none,0⟩,
⟨(some 96),(.q (.bin .add (.p .int) (.t 95) (.c (.int .i64 (.ofNat 1))))),none,0⟩,
⟨(some 8),(.q (.mv (.t 96))),none,0⟩])
(.seq (.reg [⟨(some 97),(.q (.mv (.t 10))),none,0⟩,
⟨(some 98),(.q (.bin .add (.p .int) (.t 97) (.c (.int .i64 (.ofNat 1))))),none,0⟩,
⟨(some 10),(.q (.mv (.t 98))),none,0⟩])
(.seq (.reg [⟨(some 99),(.q (.mv (.t 5))),none,0⟩,
⟨(some 100),(.q (.ld false 1 (.c (.ptr 2 0)))),none,0⟩,
⟨(some 101),(.q (.bin .leq (.p .int) (.t 99) (.t 100))),none,0⟩,
⟨(some 102),(.q (.mv (.t 101))),none,0⟩,
⟨(some 103),(.q (.mv (.t 10))),(some (102,true)),0⟩,
⟨(some 104),(.q (.mv (.t 8))),(some (102,true)),0⟩,
⟨(some 105),(.x (.call (.c (.fn 161 [] [])) [(.t 104)])),(some (102,true)),0⟩,
⟨(some 106),(.q (.bin .gtr (.p .int) (.t 103) (.t 105))),(some (102,true)),0⟩,
⟨(some 107),(.q (.pick (.t 102) (.t 106) (.c (.bool false)))),none,0⟩])
(.cond (.t 107) (.seq (.reg [⟨(some 108),(.q (.mv (.t 0))),none,0⟩,
⟨(some 109),(.q (.mv (.t 8))),none,0⟩,
⟨(some 110),(.q (.slc .str (.t 108) (some (.t 109)) none none)),none,0⟩,
⟨(some 111),(.q (.mv (.t 1))),none,0⟩,
⟨(some 112),(.x (.call (.c (.fn 160 [] [])) [(.t 110),(.t 111)])),none,0⟩,
⟨(some 12),(.q (.mv (.t 112))),none,0⟩])
(.seq (.seq (.reg [⟨(some 113),(.q (.mv (.t 12))),none,0⟩,
⟨(some 114),(.q (.bin .geq (.p .int) (.t 113) (.c (.int .i64 (.ofNat 0))))),none,0⟩])
(.cond (.t 114) (.seq (.reg [⟨(some 115),(.q (.mv (.t 12))),none,0⟩,
⟨(some 116),(.q (.mv (.t 8))),none,0⟩,
⟨(some 117),(.q (.bin .add (.p .int) (.t 115) (.t 116))),none,0⟩,
⟨(some 4),(.q (.mv (.t 117))),none,0⟩])
.ret) .skip))
(.seq (.reg [⟨(some 4),(.q (.mv (.c (.int .i64 (.negSucc 0))))),none,0⟩])
.ret))) (.seq (.reg [⟨(some 118),(.q (.mv (.t 5))),none,0⟩,
⟨(some 119),(.q (.ld false 1 (.c (.ptr 2 0)))),none,0⟩,
⟨(some 120),(.q (.bin .gtr (.p .int) (.t 118) (.t 119))),none,0⟩,
⟨(some 121),(.q (.mv (.t 120))),none,0⟩,
⟨(some 122),(.q (.mv (.t 10))),(some (121,true)),0⟩,
⟨(some 123),(.q (.mv (.t 8))),(some (121,true)),0⟩,
⟨(some 124),(.q (.bin .shr (.p .int) (.t 123) (.c (.int .u64 (.ofNat 4))))),(some (121,true)),0⟩,
⟨(some 125),(.q (.bin .add (.p .int) (.c (.int .i64 (.ofNat 4))) (.t 124))),(some (121,true)),0⟩,
⟨(some 126),(.q (.bin .geq (.p .int) (.t 122) (.t 125))),(some (121,true)),0⟩,
⟨(some 127),(.q (.pick (.t 121) (.t 126) (.c (.bool false)))),none,0⟩,
⟨(some 128),(.q (.mv (.t 127))),none,0⟩,
⟨(some 129),(.q (.mv (.t 8))),(some (128,true)),0⟩,
⟨(some 130),(.q (.mv (.t 9))),(some (128,true)),0⟩,
⟨(some 131),(.q (.bin .lss (.p .int) (.t 129) (.t 130))),(some (128,true)),0⟩,
⟨(some 132),(.q (.pick (.t 128) (.t 131) (.c (.bool false)))),none,0⟩])
(.cond (.t 132) (.seq (.reg [⟨(some 133),(.q (.mv (.t 0))),none,0⟩,
⟨(some 134),(.q (.mv (.t 8))),none,0⟩,
⟨(some 135),(.q (.slc .str (.t 133) (some (.t 134)) none none)),none,0⟩,
⟨(some 136),(.q (.mv (.t 1))),none,0⟩,
⟨(some 137),(.x (.call (.c (.fn 162 [] [])) [(.t 135),(.t 136)])),none,0⟩,
⟨(some 13),(.q (.mv (.t 137))),none,0⟩])
(.seq (.seq (.reg [⟨(some 138),(.q (.mv (.t 13))),none,0⟩,
⟨(some 139),(.q (.bin .lss (.p .int) (.t 138) (.c (.int .i64 (.ofNat 0))))),none,0⟩])
(.cond (.t 139) (.seq (.reg [⟨(some 4),(.q (.mv (.c (.int .i64 (.negSucc 0))))),none,0⟩])
.ret) .skip))
(.seq (.reg [⟨(some 140),(.q (.mv (.t 8))),none,0⟩,
⟨(some 141),(.q (.mv (.t 13))),none,0⟩,
⟨(some 142),(.q (.bin .add (.p .int) (.t 140) (.t 141))),none,0⟩,
⟨(some 4),(.q (.mv (.t 142))),none,0⟩])
.ret))) .skip))))))))))))
(.seq (.reg [⟨(some 4),(.q (.mv (.c (.int .i64 (.negSucc 0))))),none,0⟩])
.ret))))))))))⟩
theorem row150 : Row Tryd.prog (150, a150) := ⟨Tryd.f150, Tryd.func150, by kernel_rfl⟩
noncomputable def a151 : AFn :=
⟨18,[(.t 4)],(.seq (.reg [⟨(some 4),(.q (.mv (.c (.bool false)))),none,0⟩])
(.seq (.reg [⟨(some 5),(.q (.mv (.t 0))),none,0⟩,
⟨(some 6),(.q (.lenStr (.t 5))),none,0⟩,
⟨(some 7),(.q (.mv (.t 1))),none,0⟩,
⟨(some 8),(.q (.lenStr (.t 7))),none,0⟩,
⟨(some 9),(.q (.bin .geq (.p .int) (.t 6) (.t 8))),none,0⟩,
⟨(some 10),(.q (.mv (.t 9))),none,0⟩,
⟨(some 11),(.q (.mv (.t 0))),(some (10,true)),0⟩,
⟨(some 12),(.q (.mv (.t 1))),(some (10,true)),0⟩,
⟨(some 13),(.q (.lenStr (.t 12))),(some (10,true)),0⟩,
⟨(some 14),(.q (.slc .str (.t 11) none (some (.t 13)) none)),(some (10,true)),0⟩,
⟨(some 15),(.q (.mv (.t 1))),(some (10,true)),0⟩,
⟨(some 16),(.q (.bin .eql (.p .str) (.t 14) (.t 15))),(some (10,true)),0⟩,
⟨(some 17),(.q (.pick (.t 10) (.t 16) (.c (.bool false)))),none,0⟩,
⟨(some 4),(.q (.mv (.t 17))),none,0⟩])
.ret))⟩
theorem row151 : Row Tryd.prog (151, a151) := ⟨Tryd.f151, Tryd.func151, by kernel_rfl⟩
noncomputable def a159 : AFn :=
⟨8,[(.t 4)],(.seq (.reg [⟨(some 4),(.q (.mv (.c (.int .i64 (.ofNat 0))))),none,0⟩])
(.seq (.reg [⟨(some 5),(.q (.mv (.t 0))),none,0⟩,
⟨(some 6),(.q (.mv (.t 1))),none,0⟩,
⟨(some 7),(.x (.ext .idxByte [(.t 5),(.t 6)])),none,0⟩,
⟨(some 4),(.q (.mv (.t 7))),none,0⟩])
.ret))⟩
theorem row159 : Row Tryd.prog (159, a159) := ⟨Tryd.f159, Tryd.func159, by kernel_rfl⟩
noncomputable def a161 : AFn :=
⟨6,[(.t 2)],(.seq (.reg [⟨(some 2),(.q (.mv (.c (.int .i64 (.ofNat 0))))),none,0⟩])
(.seq (.reg [⟨(some 3),(.q (.mv (.t 0))),none,0⟩,
⟨(some 4),(.q (.bin .add (.p .int) (.t 3) (.c (.int .i64 (.ofNat 16))))),none,0⟩,
⟨(some 5),(.q (.bin .quo (.p .int) (.t 4) (.c (.int .i64 (.ofNat 8))))),none,0⟩,
⟨(some 2),(.q (.mv (.t 5))),none,0⟩])
.ret))⟩
theorem row161 : Row Tryd.prog (161, a161) := ⟨Tryd.f161, Tryd.func161, by kernel_rfl⟩
noncomputable def a162 : AFn :=
⟨81,[(.t 4)],(.seq (.reg [⟨(some 4),(.q (.mv (.c (.int .i64 (.ofNat 0))))),none,0⟩])
(.seq (.reg [⟨(some 12),(.q (.mv (.t 1))),none,0⟩,
⟨(some 13),(.x (.call (.c (.fn 164 [] [])) [(.t 12)])),none,0⟩,
⟨(some 11),(.q (.mv (.t 13))),none,0⟩,
⟨(some 14),(.q (.extract (.t 11) 0)),none,0⟩,
⟨(some 15),(.q (.extract (.t 11) 1)),none,0⟩,
⟨(some 5),(.q (.mv (.t 14))),none,0⟩,
⟨(some 6),(.q (.mv (.t 15))),none,0⟩])
(.seq (.reg [⟨(some 16),(.q (.mv (.t 1))),none,0⟩,
⟨(some 17),(.q (.lenStr (.t 16))),none,0⟩,
⟨(some 7),(.q (.mv (.t 17))),none,0⟩])
(.seq (.reg [⟨(some 8),(.q (.mv (.c (.int .u32 (.ofNat 0))))),none,0⟩])
(.seq (.seq (.reg [⟨(some 9),(.q (.mv (.c (.int .i64 (.ofNat 0))))),none,0⟩])
(.block 0 (.loop (.seq (.seq (.reg [⟨(some 18),(.q (.mv (.t 9))),none,0⟩,
⟨(some 19),(.q (.mv (.t 7))),none,0⟩,
⟨(some 20),(.q (.bin .lss (.p .int) (.t 18) (.t 19))),none,0⟩])
(.cond (.t 20) .skip (.exit 0)))
(.seq (.block 1 (.reg [⟨(some 23),(.q (.mv (.t 8))),none,0⟩,
⟨(some 24),(.q (.bin .mul (.p .int) (.t 23) (.c (.int .u32 (.ofNat 16777619))))),none,0⟩,
⟨(some 25),(.q (.mv (.t 0))),none,0⟩,
⟨(some 26),(.q (.mv (.t 9))),none,0⟩,
⟨(some 27),(.q (.idxStr (.t 25) (.t 26))),none,0⟩,
⟨(some 28),(.q (.conv (.int .u32) (.t 27))),none,0⟩,
⟨(some 29),(.q (.bin .add (.p .int) (.t 24) (.t 28))),none,0⟩,
⟨(some 8),(.q (.mv (.t 29))),none,0⟩]))
(.reg [⟨(some 21),(.q (.mv (.t 9))),none,0⟩,
⟨(some 22),(.q (.bin .add (.p .int) (.t 21) (.c (.int .i64 (.ofNat 1))))),none,0⟩,
⟨(some 9),(.q (.mv (.t 22))),none,0⟩]))))))
(.seq (.seq (.reg [⟨(some 30),(.q (.mv (.t 8))),none,0⟩,
⟨(some 31),(.q (.mv (.t 5))),none,0⟩,
⟨(some 32),(.q (.bin .eql (.p .int) (.t 30) (.t 31))),none,0⟩,
⟨(some 33),(.q (.mv (.t 32))),none,0⟩,
⟨(some 34),(.q (.mv (.t 0))),(some (33,true)),0⟩,
⟨(some 35),(.q (.mv (.t 7))),(some (33,true)),0⟩,
⟨(some 36),(.q (.slc .str (.t 34) none (some (.t 35)) none)),(some (33,true)),0⟩,
⟨(some 37),(.q (.mv (.t 1))),(some (33,true)),0⟩,
⟨(some 38),(.q (.bin .eql (.p .str) (.t 36) (.t 37))),(some (33,true)),0⟩,
⟨(some 39),(.q (.pick (.t 33) (.t 38) (.c (.bool false)))),none,0⟩])
(.cond (.t 39) (.seq (.reg [⟨(some 4),(.q (.mv (.c (.int .i64 (.ofNat 0))))),none,0⟩])
.ret) .skip))
(.seq (.seq (.reg [⟨(some 40),(.q (.mv (.t 7))),none,0⟩,
⟨(some 10),(.q (.mv (.t 40))),none,0⟩])
(.block 2 (.loop (.seq (.seq (.reg [⟨(some 41),(.q (.mv (.t 10))),none,0⟩,
⟨(some 42),(.q (.mv (.t 0))),none,0⟩,
⟨(some 43),(.q (.lenStr (.t 42))),none,0⟩,
⟨(some 44),(.q (.bin .lss (.p .int) (.t 41) (.t 43))),none,0⟩])
(.cond (.t 44) .skip (.exit 2)))
(.block 3 (.seq (.reg [⟨(some 45),(.q (.mv (.t 8))),none,0⟩,
⟨(some 46),(.q (.bin .mul (.p .int) (.t 45) (.c (.int .u32 (.ofNat 16777619))))),none,0⟩,
⟨(some 8),(.q (.mv (.t 46))),none,0⟩])
(.seq (.reg [⟨(some 47),(.q (.mv (.t 8))),none,0⟩,
⟨(some 48),(.q (.mv (.t 0))),none,0⟩,
⟨(some 49),(.q (.mv (.t 10))),none,0⟩,
⟨(some 50),(.q (.idxStr (.t 48) (.t 49))),none,0⟩,
⟨(some 51),(.q (.conv (.int .u32) (.t 50))),none,0⟩,
⟨(some 52),(.q (.bin .add (.p .int) (.t 47) (.t 51))),none,0⟩,
⟨(some 8),(.q (.mv (.t 52))),none,0⟩])
(.seq (.reg [⟨(some 53),(.q (.mv (.t 8))),none,0⟩,
⟨(some 54),(.q (.mv (.t 6))),none,0⟩,
⟨(some 55),(.q (.mv (.t 0))),none,0⟩,
⟨(some 56),(.q (.mv (.t 10))),none,0⟩,
⟨(some 57),(.q (.mv (.t 7))),none,0⟩,
⟨(some 58),(.q (.bin .sub (.p .int) (.t 56) (.t 57))),none,0⟩,
⟨(some 59),(.q (.idxStr (.t 55) (.t 58))),none,0⟩,
⟨(some 60),(.q (.conv (.int .u32) (.t 59))),none,0⟩,
⟨(some 61),(.q (.bin .mul (.p .int) (.t 54) (.t 60))),none,0⟩,
⟨(some 62),(.q (.bin .sub (.p .int) (.t 53) (.t 61))),none,0⟩,
⟨(some 8),(.q (.mv (.t 62))),none,0⟩])
(.seq (.reg [⟨(some 63),(.q (.mv (.t 10))),none,0⟩,
⟨(some 64),(.q (.bin .add (.p .int) (.t 63) (.c (.int .i64 (.ofNat 1))))),none,0⟩,
⟨(some 10),(.q (.mv (.t 64))),none,0⟩])
(.seq (.reg [⟨(some 65),(.q (.mv (.t 8))),none,0⟩,
⟨(some 66),(.q (.mv (.t 5))),none,0⟩,
⟨(some 67),(.q (.bin .eql (.p .int) (.t 65) (.t 66))),none,0⟩,
⟨(some 68),(.q (.mv (.t 67))),none,0⟩,
⟨(some 69),(.q (.mv (.t 0))),(some (68,true)),0⟩,
⟨(some 70),(.q (.mv (.t 10))),(some (68,true)),0⟩,
⟨(some 71),(.q (.mv (.t 7))),(some (68,true)),0⟩,
⟨(some 72),(.q (.bin .sub (.p .int) (.t 70) (.t 71))),(some (68,true)),0⟩,
⟨(some 73),(.q (.mv (.t 10))),(some (68,true)),0⟩,
⟨(some 74),(.q (.slc .str (.t 69) (some (.t 72)) (some (.t 73)) none)),(some (68,true)),0⟩,
⟨(some 75),(.q (.mv (.t 1))),(some (68,true)),0⟩,
⟨(some 76),(.q (.bin .eql (.p .str) (.t 74) (.t 75))),(some (68,true)),0⟩,
⟨(some 77),(.q (.pick (.t 68) (.t 76) (.c (.bool false)))),none,0⟩])
(.cond (.t 77) (.seq (.reg [⟨(some 78),(.q (.mv (.t 10))),none,0⟩,
⟨(some 79),(.q (.mv (.t 7))),none,0⟩,
⟨(some 80),(.q (.bin .sub (.p .int) (.t 78) (.t 79))),none,0⟩,
⟨(some 4),(.q (.mv (.t 80))),none,0⟩])
.ret) .skip)))))))))))
(.seq (.reg [⟨(some 4),(.q (.mv (.c (.int .i64 (.negSucc 0))))),none,0⟩])
.ret))))))))⟩
theorem row162 : Row Tryd.prog (162, a162) := ⟨Tryd.f162, Tryd.func162, by kernel_rfl⟩
noncomputable def a164 : AFn :=
⟨39,[(.t 2),(.t 3)],(.seq (.reg [⟨(some 2),(.q (.mv (.c (.int .u32 (.ofNat 0))))),none,0⟩,
⟨(some 3),(.q (.mv (.c (.int .u32 (.ofNat 0))))),none,0⟩])
(.seq (.reg [⟨(some 4),(.q (.mv (.c (.int .u32 (.ofNat 0))))),none,0⟩])
(.seq (.seq (.reg [⟨(some 5),(.q (.mv (.c (.int .i64 (.ofNat 0))))),none,0⟩])
(.block 0 (.loop (.seq (.seq (.reg [⟨(some 9),(.q (.mv (.t 5))),none,0⟩,
⟨(some 10),(.q (.mv (.t 0))),none,0⟩,
⟨(some 11),(.q (.lenStr (.t 10))),none,0⟩,
⟨(some 12),(.q (.bin .lss (.p .int) (.t 9) (.t 11))),none,0⟩])
(.cond (.t 12) .skip (.exit 0)))
(.seq (.block 1 (.reg [⟨(some 15),(.q (.mv (.t 4))),none,0⟩,
⟨(some 16),(.q (.bin .mul (.p .int) (.t 15) (.c (.int .u32 (.ofNat 16777619))))),none,0⟩,
⟨(some 17),(.q (.mv (.t 0))),none,0⟩,
⟨(some 18),(.q (.mv (.t 5))),none,0⟩,
⟨(some 19),(.q (.idxStr (.t 17) (.t 18))),none,0⟩,
⟨(some 20),(.q (.conv (.int .u32) (.t 19))),none,0⟩,
⟨(some 21),(.q (.bin .add (.p .int) (.t 16) (.t 20))),none,0⟩,
⟨(some 4),(.q (.mv (.t 21))),none,0⟩]))
(.reg [⟨(some 13),(.q (.mv (.t 5))),none,0⟩,
⟨(some 14),(.q (.bin .add (.p .int) (.t 13) (.c (.int .i64 (.ofNat 1))))),none,0⟩,
⟨(some 5),(.q (.mv (.t 14))),none,0⟩]))))))
(.seq (.reg [⟨(some 6),(.q (.mv (.c (.int .u32 (.ofNat 1))))),none,0⟩,
⟨(some 7),(.q (.mv (.c (.int .u32 (.ofNat 16777619))))),none,0⟩])
(.seq (.seq (.reg [⟨(some 22),(.q (.mv (.t 0))),none,0⟩,
⟨(some 23),(.q (.lenStr (.t 22))),none,0⟩,
⟨(some 8),(.q (.mv (.t 23))),none,0⟩])
(.block 2 (.loop (.seq (.seq (.reg [⟨(some 24),(.q (.mv (.t 8))),none,0⟩,
⟨(some 25),(.q (.bin .gtr (.p .int) (.t 24) (.c (.int .i64 (.ofNat 0))))),none,0⟩])
(.cond (.t 25) .skip (.exit 2)))
(.seq (.block 3 (.seq (.seq (.reg [⟨(some 28),(.q (.mv (.t 8))),none,0⟩,
⟨(some 29),(.q (.bin .and (.p .int) (.t 28) (.c (.int .i64 (.ofNat 1))))),none,0⟩,
⟨(some 30),(.q (.bin .neq (.p .int) (.t 29) (.c (.int .i64 (.ofNat 0))))),none,0⟩])
(.cond (.t 30) (.reg [⟨(some 31),(.q (.mv (.t 6))),none,0⟩,
⟨(some 32),(.q (.mv (.t 7))),none,0⟩,
⟨(some 33),(.q (.bin .mul (.p .int) (.t 31) (.t 32))),none,0⟩,
⟨(some 6),(.q (.mv (.t 33))),none,0⟩]) .skip))
(.reg [⟨(some 34),(.q (.mv (.t 7))),none,0⟩,
⟨(some 35),(.q (.mv (.t 7))),none,0⟩,
⟨(some 36),(.q (.bin .mul (.p .int) (.t 34) (.t 35))),none,0⟩,
⟨(some 7),(.q (.mv (.t 36))),none,0⟩])))
(.reg [⟨(some 26),(.q (.mv (.t 8))),none,0⟩,
⟨(some 27),(.q (.bin .shr (.p .int) (.t 26) (.c (.int .u64 (.ofNat 1))))),none,0⟩,
⟨(some 8),(.q (.mv (.t 27))),none,0⟩]))))))
(.seq (.reg [⟨(some 37),(.q (.mv (.t 4))),none,0⟩,
⟨(some 38),(.q (.mv (.t 6))),none,0⟩,
⟨(some 2),(.q (.mv (.t 37))),none,0⟩,
⟨(some 3),(.q (.mv (.t 38))),none,0⟩])
.ret))))))⟩
theorem row164 : Row Tryd.prog (164, a164) := ⟨Tryd.f164, Tryd.func164, by kernel_rfl⟩
end Go.Proofs.YtopemogpgppjlaaDoor.ratKnown
