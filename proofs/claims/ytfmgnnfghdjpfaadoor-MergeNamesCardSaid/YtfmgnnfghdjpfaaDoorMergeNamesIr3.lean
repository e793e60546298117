/- The functions that MergeNames reaches, as data of the evaluator (part 3), written by program; each is shown to be the compiler's result on the loaded function. -/
import Derived.Test.YtfmgnnfghdjpfaaDoorProg
import Derived.Test.YtfmgnnfghdjpfaaDoorEv7
import Derived.KernelRfl
namespace Go.Proofs.YtfmgnnfghdjpfaaDoor.mergeNames
open Go.Ev
set_option maxRecDepth 100000
noncomputable def a99 : AFn :=
⟨7,[(.t 2)],(.seq (.reg [⟨(some 2),(.q (.mv (.c (.int .u64 (.ofNat 0))))),none,0⟩])
(.seq (.reg [⟨(some 3),(.q (.mv (.t 0))),none,0⟩,
⟨(some 4),(.q (.conv (.int .u64) (.t 3))),none,0⟩,
⟨(some 5),(.x (.call (.c (.fn 72 [] [])) [(.t 4)])),none,0⟩,
⟨(some 6),(.q (.bin .shl (.p .int) (.c (.int .u64 (.ofNat 1))) (.t 5))),none,0⟩,
⟨(some 2),(.q (.mv (.t 6))),none,0⟩])
.ret))⟩
theorem row99 : Row Tryd.prog (99, a99) := ⟨Tryd.f99, Tryd.func99, by kernel_rfl⟩
noncomputable def a100 : AFn :=
⟨33,[(.t 2)],(.seq (.reg [⟨(some 2),(.q (.mv (.c (.int .u64 (.ofNat 0))))),none,0⟩])
(.seq (.drw [⟨(some 3),(.q (.mv (.t 0))),none,0⟩,
⟨(some 4),(.q (.nilchk (.t 3))),none,1⟩,
⟨(some 5),(.q (.ld false 1 (.t 4))),none,3⟩,
⟨(some 6),(.q (.mv (.t 0))),none,0⟩,
⟨(some 7),(.q (.nilchk (.t 6))),none,8⟩,
⟨(some 8),(.q (.ld false 1 (.t 7))),none,24⟩,
⟨(some 9),(.q (.bin .shl (.p .int) (.t 8) (.c (.int .u64 (.ofNat 13))))),none,56⟩,
⟨(some 10),(.q (.bin .xor (.p .int) (.t 5) (.t 9))),none,127⟩,
⟨(some 11),(.q (.nilchk (.t 3))),none,255⟩,
⟨none,(.x (.st 1 (.t 11) (.t 10))),none,511⟩])
(.seq (.drw [⟨(some 12),(.q (.mv (.t 0))),none,0⟩,
⟨(some 13),(.q (.nilchk (.t 12))),none,1⟩,
⟨(some 14),(.q (.ld false 1 (.t 13))),none,3⟩,
⟨(some 15),(.q (.mv (.t 0))),none,0⟩,
⟨(some 16),(.q (.nilchk (.t 15))),none,8⟩,
⟨(some 17),(.q (.ld false 1 (.t 16))),none,24⟩,
⟨(some 18),(.q (.bin .shr (.p .int) (.t 17) (.c (.int .u64 (.ofNat 7))))),none,56⟩,
⟨(some 19),(.q (.bin .xor (.p .int) (.t 14) (.t 18))),none,127⟩,
⟨(some 20),(.q (.nilchk (.t 12))),none,255⟩,
⟨none,(.x (.st 1 (.t 20) (.t 19))),none,511⟩])
(.seq (.drw [⟨(some 21),(.q (.mv (.t 0))),none,0⟩,
⟨(some 22),(.q (.nilchk (.t 21))),none,1⟩,
⟨(some 23),(.q (.ld false 1 (.t 22))),none,3⟩,
⟨(some 24),(.q (.mv (.t 0))),none,0⟩,
⟨(some 25),(.q (.nilchk (.t 24))),none,8⟩,
⟨(some 26),(.q (.ld false 1 (.t 25))),none,24⟩,
⟨(some 27),(.q (.bin .shl (.p .int) (.t 26) (.c (.int .u64 (.ofNat 17))))),none,56⟩,
⟨(some 28),(.q (.bin .xor (.p .int) (.t 23) (.t 27))),none,127⟩,
⟨(some 29),(.q (.nilchk (.t 21))),none,255⟩,
⟨none,(.x (.st 1 (.t 29) (.t 28))),none,511⟩])
(.seq (.reg [⟨(some 30),(.q (.mv (.t 0))),none,0⟩,
⟨(some 31),(.q (.nilchk (.t 30))),none,0⟩,
⟨(some 32),(.q (.ld false 1 (.t 31))),none,0⟩,
⟨(some 2),(.q (.mv (.t 32))),none,0⟩])
.ret)))))⟩
theorem row100 : Row Tryd.prog (100, a100) := ⟨Tryd.f100, Tryd.func100, by kernel_rfl⟩
noncomputable def a101 : AFn :=
⟨18,[(.t 8)],(.seq (.reg [⟨(some 8),(.q (.mv (.c (.int .i64 (.ofNat 0))))),none,0⟩])
(.seq (.reg [⟨(some 9),(.q (.mv (.t 0))),none,0⟩,
⟨(some 10),(.q (.mv (.t 1))),none,0⟩,
⟨(some 11),(.q (.bin .sub (.p .int) (.t 10) (.c (.int .i64 (.ofNat 1))))),none,0⟩,
⟨(some 12),(.q (.mv (.t 1))),none,0⟩,
⟨(some 13),(.q (.mv (.t 1))),none,0⟩,
⟨(some 14),(.q (.bin .add (.p .int) (.t 13) (.c (.int .i64 (.ofNat 1))))),none,0⟩,
⟨(some 15),(.q (.mv (.t 2))),none,0⟩,
⟨(some 16),(.q (.mv (.t 3))),none,0⟩,
⟨(some 17),(.x (.call (.c (.fn 102 [] [])) [(.t 9),(.t 11),(.t 12),(.t 14),(.t 15),(.t 16)])),none,0⟩,
⟨(some 8),(.q (.mv (.t 17))),none,0⟩])
.ret))⟩
theorem row101 : Row Tryd.prog (101, a101) := ⟨Tryd.f101, Tryd.func101, by kernel_rfl⟩
noncomputable def a102 : AFn :=
⟨41,[(.t 12)],(.seq (.reg [⟨(some 12),(.q (.mv (.c (.int .i64 (.ofNat 0))))),none,0⟩])
(.seq (.reg [⟨(some 14),(.q (.mv (.t 0))),none,0⟩,
⟨(some 15),(.q (.mv (.t 1))),none,0⟩,
⟨(some 16),(.q (.mv (.t 2))),none,0⟩,
⟨(some 17),(.q (.mv (.t 4))),none,0⟩,
⟨(some 18),(.q (.mv (.t 5))),none,0⟩,
⟨(some 19),(.x (.call (.c (.fn 109 [] [])) [(.t 14),(.t 15),(.t 16),(.t 17),(.t 18)])),none,0⟩,
⟨(some 13),(.q (.mv (.t 19))),none,0⟩,
⟨(some 20),(.q (.extract (.t 13) 0)),none,0⟩,
⟨(some 21),(.q (.extract (.t 13) 1)),none,0⟩,
⟨(some 1),(.q (.mv (.t 20))),none,0⟩,
⟨(some 2),(.q (.mv (.t 21))),none,0⟩])
(.seq (.reg [⟨(some 23),(.q (.mv (.t 0))),none,0⟩,
⟨(some 24),(.q (.mv (.t 2))),none,0⟩,
⟨(some 25),(.q (.mv (.t 3))),none,0⟩,
⟨(some 26),(.q (.mv (.t 4))),none,0⟩,
⟨(some 27),(.q (.mv (.t 5))),none,0⟩,
⟨(some 28),(.x (.call (.c (.fn 109 [] [])) [(.t 23),(.t 24),(.t 25),(.t 26),(.t 27)])),none,0⟩,
⟨(some 22),(.q (.mv (.t 28))),none,0⟩,
⟨(some 29),(.q (.extract (.t 22) 0)),none,0⟩,
⟨(some 30),(.q (.extract (.t 22) 1)),none,0⟩,
⟨(some 2),(.q (.mv (.t 29))),none,0⟩,
⟨(some 3),(.q (.mv (.t 30))),none,0⟩])
(.seq (.reg [⟨(some 32),(.q (.mv (.t 0))),none,0⟩,
⟨(some 33),(.q (.mv (.t 1))),none,0⟩,
⟨(some 34),(.q (.mv (.t 2))),none,0⟩,
⟨(some 35),(.q (.mv (.t 4))),none,0⟩,
⟨(some 36),(.q (.mv (.t 5))),none,0⟩,
⟨(some 37),(.x (.call (.c (.fn 109 [] [])) [(.t 32),(.t 33),(.t 34),(.t 35),(.t 36)])),none,0⟩,
⟨(some 31),(.q (.mv (.t 37))),none,0⟩,
⟨(some 38),(.q (.extract (.t 31) 0)),none,0⟩,
⟨(some 39),(.q (.extract (.t 31) 1)),none,0⟩,
⟨(some 1),(.q (.mv (.t 38))),none,0⟩,
⟨(some 2),(.q (.mv (.t 39))),none,0⟩])
(.seq (.reg [⟨(some 40),(.q (.mv (.t 2))),none,0⟩,
⟨(some 12),(.q (.mv (.t 40))),none,0⟩])
.ret)))))⟩
theorem row102 : Row Tryd.prog (102, a102) := ⟨Tryd.f102, Tryd.func102, by kernel_rfl⟩
noncomputable def a103 : AFn :=
⟨9,[(.t 4)],(.seq (.reg [⟨(some 4),(.q (.mv (.c (.bool false)))),none,0⟩])
(.seq (.reg [⟨(some 5),(.q (.mv (.t 0))),none,0⟩,
⟨(some 6),(.q (.mv (.t 1))),none,0⟩,
⟨(some 7),(.x (.call (.c (.fn 110 [] [])) [(.t 5),(.t 6)])),none,0⟩,
⟨(some 8),(.q (.bin .geq (.p .int) (.t 7) (.c (.int .i64 (.ofNat 0))))),none,0⟩,
⟨(some 4),(.q (.mv (.t 8))),none,0⟩])
.ret))⟩
theorem row103 : Row Tryd.prog (103, a103) := ⟨Tryd.f103, Tryd.func103, by kernel_rfl⟩
noncomputable def a104 : AFn :=
⟨13,[(.t 4)],(.seq (.reg [⟨(some 4),(.q (.mv (.c (.bool false)))),none,0⟩])
(.seq (.reg [⟨(some 5),(.q (.mv (.t 0))),none,0⟩,
⟨(some 6),(.q (.ld false 1 (.t 1))),none,0⟩,
⟨(some 7),(.q (.bin .lss (.p .int) (.t 5) (.t 6))),none,0⟩,
⟨(some 8),(.q (.mv (.t 7))),none,0⟩,
⟨(some 9),(.q (.mv (.t 0))),(some (8,false)),0⟩,
⟨(some 10),(.q (.ld false 1 (.t 2))),(some (8,false)),0⟩,
⟨(some 11),(.q (.bin .gtr (.p .int) (.t 9) (.t 10))),(some (8,false)),0⟩,
⟨(some 12),(.q (.pick (.t 8) (.c (.bool true)) (.t 11))),none,0⟩,
⟨(some 4),(.q (.mv (.t 12))),none,0⟩])
.ret))⟩
theorem row104 : Row Tryd.prog (104, a104) := ⟨Tryd.f104, Tryd.func104, by kernel_rfl⟩
noncomputable def a105 : AFn :=
⟨15,[(.t 2)],(.seq (.reg [⟨(some 2),(.q (.mv (.c (.str [])))),none,0⟩])
(.seq (.seq (.reg [⟨(some 3),(.q (.mv (.t 0))),none,0⟩,
⟨(some 4),(.q (.bin .lss (.p .int) (.t 3) (.c (.int .i64 (.ofNat 10))))),none,0⟩])
(.cond (.t 4) (.seq (.reg [⟨(some 5),(.q (.mv (.t 0))),none,0⟩,
⟨(some 6),(.q (.mv (.t 0))),none,0⟩,
⟨(some 7),(.q (.bin .add (.p .int) (.t 6) (.c (.int .i64 (.ofNat 1))))),none,0⟩,
⟨(some 8),(.q (.slc .str (.c (.str [48,49,50,51,52,53,54,55,56,57,97,98,99,100,101,102,103,104,105,106,107,108,109,110,111,112,113,114,115,116,117,118,119,120,121,122])) (some (.t 5)) (some (.t 7)) none)),none,0⟩,
⟨(some 2),(.q (.mv (.t 8))),none,0⟩])
.ret) .skip))
(.seq (.reg [⟨(some 9),(.q (.mv (.t 0))),none,0⟩,
⟨(some 10),(.q (.bin .mul (.p .int) (.t 9) (.c (.int .i64 (.ofNat 2))))),none,0⟩,
⟨(some 11),(.q (.mv (.t 0))),none,0⟩,
⟨(some 12),(.q (.bin .mul (.p .int) (.t 11) (.c (.int .i64 (.ofNat 2))))),none,0⟩,
⟨(some 13),(.q (.bin .add (.p .int) (.t 12) (.c (.int .i64 (.ofNat 2))))),none,0⟩,
⟨(some 14),(.q (.slc .str (.c (.str [48,48,48,49,48,50,48,51,48,52,48,53,48,54,48,55,48,56,48,57,49,48,49,49,49,50,49,51,49,52,49,53,49,54,49,55,49,56,49,57,50,48,50,49,50,50,50,51,50,52,50,53,50,54,50,55,50,56,50,57,51,48,51,49,51,50,51,51,51,52,51,53,51,54,51,55,51,56,51,57,52,48,52,49,52,50,52,51,52,52,52,53,52,54,52,55,52,56,52,57,53,48,53,49,53,50,53,51,53,52,53,53,53,54,53,55,53,56,53,57,54,48,54,49,54,50,54,51,54,52,54,53,54,54,54,55,54,56,54,57,55,48,55,49,55,50,55,51,55,52,55,53,55,54,55,55,55,56,55,57,56,48,56,49,56,50,56,51,56,52,56,53,56,54,56,55,56,56,56,57,57,48,57,49,57,50,57,51,57,52,57,53,57,54,57,55,57,56,57,57])) (some (.t 10)) (some (.t 13)) none)),none,0⟩,
⟨(some 2),(.q (.mv (.t 14))),none,0⟩])
.ret)))⟩
theorem row105 : Row Tryd.prog (105, a105) := ⟨Tryd.f105, Tryd.func105, by kernel_rfl⟩
noncomputable def a106 : AFn :=
⟨15,[(.t 2)],(.seq (.reg [⟨(some 2),(.q (.mv (.c (.int .i64 (.ofNat 0))))),none,0⟩])
(.seq (.reg [⟨(some 4),(.q (.mv (.t 0))),none,0⟩,
⟨(some 5),(.x (.call (.c (.fn 93 [] [])) [(.t 4)])),none,0⟩,
⟨(some 6),(.x (.call (.c (.fn 111 [] [])) [(.t 5)])),none,0⟩,
⟨(some 3),(.q (.mv (.t 6))),none,0⟩])
(.seq (.reg [⟨(some 7),(.q (.mv (.t 3))),none,0⟩,
⟨(some 8),(.q (.mv (.t 0))),none,0⟩,
⟨(some 9),(.q (.mv (.t 3))),none,0⟩,
⟨(some 10),(.q (.iaddr (.arr 20 1) (.c (.ptr 0 0)) (.t 9))),none,0⟩,
⟨(some 11),(.q (.ld false 1 (.t 10))),none,0⟩,
⟨(some 12),(.q (.bin .geq (.p .int) (.t 8) (.t 11))),none,0⟩,
⟨(some 13),(.x (.call (.c (.fn 112 [] [])) [(.t 12)])),none,0⟩,
⟨(some 14),(.q (.bin .add (.p .int) (.t 7) (.t 13))),none,0⟩,
⟨(some 2),(.q (.mv (.t 14))),none,0⟩])
.ret)))⟩
theorem row106 : Row Tryd.prog (106, a106) := ⟨Tryd.f106, Tryd.func106, by kernel_rfl⟩
noncomputable def a107 : AFn :=
⟨167,[],(.seq (.reg [⟨(some 17),(.q (.mv (.t 0))),none,0⟩,
⟨(some 18),(.q (.lenSl (.t 17))),none,0⟩,
⟨(some 4),(.q (.mv (.t 18))),none,0⟩])
(.seq (.block 0 (.loop (.seq (.seq (.reg [⟨(some 19),(.q (.mv (.t 4))),none,0⟩,
⟨(some 20),(.q (.bin .geq (.p .int) (.t 19) (.c (.int .i64 (.ofNat 8))))),none,0⟩])
(.cond (.t 20) .skip (.exit 0)))
(.block 1 (.seq (.reg [⟨(some 21),(.q (.mv (.t 1))),none,0⟩,
⟨(some 22),(.q (.bin .rem (.p .int) (.t 21) (.c (.int .u64 (.ofNat 100000000))))),none,0⟩,
⟨(some 23),(.q (.conv (.int .u32) (.t 22))),none,0⟩,
⟨(some 5),(.q (.mv (.t 23))),none,0⟩])
(.seq (.reg [⟨(some 24),(.q (.mv (.t 1))),none,0⟩,
⟨(some 25),(.q (.bin .quo (.p .int) (.t 24) (.c (.int .u64 (.ofNat 100000000))))),none,0⟩,
⟨(some 1),(.q (.mv (.t 25))),none,0⟩])
(.seq (.reg [⟨(some 26),(.q (.mv (.t 5))),none,0⟩,
⟨(some 27),(.q (.bin .quo (.p .int) (.t 26) (.c (.int .u32 (.ofNat 10000))))),none,0⟩,
⟨(some 28),(.q (.mv (.t 5))),none,0⟩,
⟨(some 29),(.q (.bin .rem (.p .int) (.t 28) (.c (.int .u32 (.ofNat 10000))))),none,0⟩,
⟨(some 6),(.q (.mv (.t 27))),none,0⟩,
⟨(some 7),(.q (.mv (.t 29))),none,0⟩])
(.seq (.reg [⟨(some 30),(.q (.mv (.t 7))),none,0⟩,
⟨(some 31),(.q (.bin .quo (.p .int) (.t 30) (.c (.int .u32 (.ofNat 100))))),none,0⟩,
⟨(some 32),(.q (.bin .mul (.p .int) (.t 31) (.c (.int .u32 (.ofNat 2))))),none,0⟩,
⟨(some 33),(.q (.mv (.t 7))),none,0⟩,
⟨(some 34),(.q (.bin .rem (.p .int) (.t 33) (.c (.int .u32 (.ofNat 100))))),none,0⟩,
⟨(some 35),(.q (.bin .mul (.p .int) (.t 34) (.c (.int .u32 (.ofNat 2))))),none,0⟩,
⟨(some 8),(.q (.mv (.t 32))),none,0⟩,
⟨(some 9),(.q (.mv (.t 35))),none,0⟩])
(.seq (.reg [⟨(some 36),(.q (.mv (.t 6))),none,0⟩,
⟨(some 37),(.q (.bin .quo (.p .int) (.t 36) (.c (.int .u32 (.ofNat 100))))),none,0⟩,
⟨(some 38),(.q (.bin .mul (.p .int) (.t 37) (.c (.int .u32 (.ofNat 2))))),none,0⟩,
⟨(some 39),(.q (.mv (.t 6))),none,0⟩,
⟨(some 40),(.q (.bin .rem (.p .int) (.t 39) (.c (.int .u32 (.ofNat 100))))),none,0⟩,
⟨(some 41),(.q (.bin .mul (.p .int) (.t 40) (.c (.int .u32 (.ofNat 2))))),none,0⟩,
⟨(some 10),(.q (.mv (.t 38))),none,0⟩,
⟨(some 11),(.q (.mv (.t 41))),none,0⟩])
(.seq (.drw [⟨(some 42),(.q (.mv (.t 0))),none,0⟩,
⟨(some 43),(.q (.mv (.t 4))),none,0⟩,
⟨(some 44),(.q (.bin .sub (.p .int) (.t 43) (.c (.int .i64 (.ofNat 1))))),none,2⟩,
⟨(some 45),(.q (.mv (.t 0))),none,0⟩,
⟨(some 46),(.q (.mv (.t 4))),none,0⟩,
⟨(some 47),(.q (.bin .sub (.p .int) (.t 46) (.c (.int .i64 (.ofNat 2))))),none,16⟩,
⟨(some 48),(.q (.mv (.t 9))),none,0⟩,
⟨(some 49),(.q (.bin .add (.p .int) (.t 48) (.c (.int .u32 (.ofNat 1))))),none,64⟩,
⟨(some 50),(.q (.idxStr (.c (.str [48,48,48,49,48,50,48,51,48,52,48,53,48,54,48,55,48,56,48,57,49,48,49,49,49,50,49,51,49,52,49,53,49,54,49,55,49,56,49,57,50,48,50,49,50,50,50,51,50,52,50,53,50,54,50,55,50,56,50,57,51,48,51,49,51,50,51,51,51,52,51,53,51,54,51,55,51,56,51,57,52,48,52,49,52,50,52,51,52,52,52,53,52,54,52,55,52,56,52,57,53,48,53,49,53,50,53,51,53,52,53,53,53,54,53,55,53,56,53,57,54,48,54,49,54,50,54,51,54,52,54,53,54,54,54,55,54,56,54,57,55,48,55,49,55,50,55,51,55,52,55,53,55,54,55,55,55,56,55,57,56,48,56,49,56,50,56,51,56,52,56,53,56,54,56,55,56,56,56,57,57,48,57,49,57,50,57,51,57,52,57,53,57,54,57,55,57,56,57,57])) (.t 49))),none,192⟩,
⟨(some 51),(.q (.mv (.t 9))),none,0⟩,
⟨(some 52),(.q (.idxStr (.c (.str [48,48,48,49,48,50,48,51,48,52,48,53,48,54,48,55,48,56,48,57,49,48,49,49,49,50,49,51,49,52,49,53,49,54,49,55,49,56,49,57,50,48,50,49,50,50,50,51,50,52,50,53,50,54,50,55,50,56,50,57,51,48,51,49,51,50,51,51,51,52,51,53,51,54,51,55,51,56,51,57,52,48,52,49,52,50,52,51,52,52,52,53,52,54,52,55,52,56,52,57,53,48,53,49,53,50,53,51,53,52,53,53,53,54,53,55,53,56,53,57,54,48,54,49,54,50,54,51,54,52,54,53,54,54,54,55,54,56,54,57,55,48,55,49,55,50,55,51,55,52,55,53,55,54,55,55,55,56,55,57,56,48,56,49,56,50,56,51,56,52,56,53,56,54,56,55,56,56,56,57,57,48,57,49,57,50,57,51,57,52,57,53,57,54,57,55,57,56,57,57])) (.t 51))),none,512⟩,
⟨(some 53),(.q (.iaddr (.slice 1) (.t 42) (.t 44))),none,455⟩,
⟨none,(.x (.st 1 (.t 53) (.t 50))),none,2503⟩,
⟨(some 54),(.q (.iaddr (.slice 1) (.t 45) (.t 47))),none,8191⟩,
⟨none,(.x (.st 1 (.t 54) (.t 52))),none,16383⟩])
(.seq (.drw [⟨(some 55),(.q (.mv (.t 0))),none,0⟩,
⟨(some 56),(.q (.mv (.t 4))),none,0⟩,
⟨(some 57),(.q (.bin .sub (.p .int) (.t 56) (.c (.int .i64 (.ofNat 3))))),none,2⟩,
⟨(some 58),(.q (.mv (.t 0))),none,0⟩,
⟨(some 59),(.q (.mv (.t 4))),none,0⟩,
⟨(some 60),(.q (.bin .sub (.p .int) (.t 59) (.c (.int .i64 (.ofNat 4))))),none,16⟩,
⟨(some 61),(.q (.mv (.t 8))),none,0⟩,
⟨(some 62),(.q (.bin .add (.p .int) (.t 61) (.c (.int .u32 (.ofNat 1))))),none,64⟩,
⟨(some 63),(.q (.idxStr (.c (.str [48,48,48,49,48,50,48,51,48,52,48,53,48,54,48,55,48,56,48,57,49,48,49,49,49,50,49,51,49,52,49,53,49,54,49,55,49,56,49,57,50,48,50,49,50,50,50,51,50,52,50,53,50,54,50,55,50,56,50,57,51,48,51,49,51,50,51,51,51,52,51,53,51,54,51,55,51,56,51,57,52,48,52,49,52,50,52,51,52,52,52,53,52,54,52,55,52,56,52,57,53,48,53,49,53,50,53,51,53,52,53,53,53,54,53,55,53,56,53,57,54,48,54,49,54,50,54,51,54,52,54,53,54,54,54,55,54,56,54,57,55,48,55,49,55,50,55,51,55,52,55,53,55,54,55,55,55,56,55,57,56,48,56,49,56,50,56,51,56,52,56,53,56,54,56,55,56,56,56,57,57,48,57,49,57,50,57,51,57,52,57,53,57,54,57,55,57,56,57,57])) (.t 62))),none,192⟩,
⟨(some 64),(.q (.mv (.t 8))),none,0⟩,
⟨(some 65),(.q (.idxStr (.c (.str [48,48,48,49,48,50,48,51,48,52,48,53,48,54,48,55,48,56,48,57,49,48,49,49,49,50,49,51,49,52,49,53,49,54,49,55,49,56,49,57,50,48,50,49,50,50,50,51,50,52,50,53,50,54,50,55,50,56,50,57,51,48,51,49,51,50,51,51,51,52,51,53,51,54,51,55,51,56,51,57,52,48,52,49,52,50,52,51,52,52,52,53,52,54,52,55,52,56,52,57,53,48,53,49,53,50,53,51,53,52,53,53,53,54,53,55,53,56,53,57,54,48,54,49,54,50,54,51,54,52,54,53,54,54,54,55,54,56,54,57,55,48,55,49,55,50,55,51,55,52,55,53,55,54,55,55,55,56,55,57,56,48,56,49,56,50,56,51,56,52,56,53,56,54,56,55,56,56,56,57,57,48,57,49,57,50,57,51,57,52,57,53,57,54,57,55,57,56,57,57])) (.t 64))),none,512⟩,
⟨(some 66),(.q (.iaddr (.slice 1) (.t 55) (.t 57))),none,455⟩,
⟨none,(.x (.st 1 (.t 66) (.t 63))),none,2503⟩,
⟨(some 67),(.q (.iaddr (.slice 1) (.t 58) (.t 60))),none,8191⟩,
⟨none,(.x (.st 1 (.t 67) (.t 65))),none,16383⟩])
(.seq (.drw [⟨(some 68),(.q (.mv (.t 0))),none,0⟩,
⟨(some 69),(.q (.mv (.t 4))),none,0⟩,
⟨(some 70),(.q (.bin .sub (.p .int) (.t 69) (.c (.int .i64 (.ofNat 5))))),none,2⟩,
⟨(some 71),(.q (.mv (.t 0))),none,0⟩,
⟨(some 72),(.q (.mv (.t 4))),none,0⟩,
⟨(some 73),(.q (.bin .sub (.p .int) (.t 72) (.c (.int .i64 (.ofNat 6))))),none,16⟩,
⟨(some 74),(.q (.mv (.t 11))),none,0⟩,
⟨(some 75),(.q (.bin .add (.p .int) (.t 74) (.c (.int .u32 (.ofNat 1))))),none,64⟩,
⟨(some 76),(.q (.idxStr (.c (.str [48,48,48,49,48,50,48,51,48,52,48,53,48,54,48,55,48,56,48,57,49,48,49,49,49,50,49,51,49,52,49,53,49,54,49,55,49,56,49,57,50,48,50,49,50,50,50,51,50,52,50,53,50,54,50,55,50,56,50,57,51,48,51,49,51,50,51,51,51,52,51,53,51,54,51,55,51,56,51,57,52,48,52,49,52,50,52,51,52,52,52,53,52,54,52,55,52,56,52,57,53,48,53,49,53,50,53,51,53,52,53,53,53,54,53,55,53,56,53,57,54,48,54,49,54,50,54,51,54,52,54,53,54,54,54,55,54,56,54,57,55,48,55,49,55,50,55,51,55,52,55,53,55,54,55,55,55,56,55,57,56,48,56,49,56,50,56,51,56,52,56,53,56,54,56,55,56,56,56,57,57,48,57,49,57,50,57,51,57,52,57,53,57,54,57,55,57,56,57,57])) (.t 75))),none,192⟩,
⟨(some 77),(.q (.mv (.t 11))),none,0⟩,
⟨(some 78),(.q (.idxStr (.c (.str [48,48,48,49,48,50,48,51,48,52,48,53,48,54,48,55,48,56,48,57,49,48,49,49,49,50,49,51,49,52,49,53,49,54,49,55,49,56,49,57,50,48,50,49,50,50,50,51,50,52,50,53,50,54,50,55,50,56,50,57,51,48,51,49,51,50,51,51,51,52,51,53,51,54,51,55,51,56,51,57,52,48,52,49,52,50,52,51,52,52,52,53,52,54,52,55,52,56,52,57,53,48,53,49,53,50,53,51,53,52,53,53,53,54,53,55,53,56,53,57,54,48,54,49,54,50,54,51,54,52,54,53,54,54,54,55,54,56,54,57,55,48,55,49,55,50,55,51,55,52,55,53,55,54,55,55,55,56,55,57,56,48,56,49,56,50,56,51,56,52,56,53,56,54,56,55,56,56,56,57,57,48,57,49,57,50,57,51,57,52,57,53,57,54,57,55,57,56,57,57])) (.t 77))),none,512⟩,
⟨(some 79),(.q (.iaddr (.slice 1) (.t 68) (.t 70))),none,455⟩,
⟨none,(.x (.st 1 (.t 79) (.t 76))),none,2503⟩,
⟨(some 80),(.q (.iaddr (.slice 1) (.t 71) (.t 73))),none,8191⟩,
⟨none,(.x (.st 1 (.t 80) (.t 78))),none,16383⟩])
(.seq (.drw [⟨(some 81),(.q (.mv (.t 0))),none,0⟩,
⟨(some 82),(.q (.mv (.t 4))),none,0⟩,
⟨(some 83),(.q (.bin .sub (.p .int) (.t 82) (.c (.int .i64 (.ofNat 7))))),none,2⟩,
⟨(some 84),(.q (.mv (.t 0))),none,0⟩,
⟨(some 85),(.q (.mv (.t 4))),none,0⟩,
⟨(some 86),(.q (.bin .sub (.p .int) (.t 85) (.c (.int .i64 (.ofNat 8))))),none,16⟩,
⟨(some 87),(.q (.mv (.t 10))),none,0⟩,
⟨(some 88),(.q (.bin .add (.p .int) (.t 87) (.c (.int .u32 (.ofNat 1))))),none,64⟩,
⟨(some 89),(.q (.idxStr (.c (.str [48,48,48,49,48,50,48,51,48,52,48,53,48,54,48,55,48,56,48,57,49,48,49,49,49,50,49,51,49,52,49,53,49,54,49,55,49,56,49,57,50,48,50,49,50,50,50,51,50,52,50,53,50,54,50,55,50,56,50,57,51,48,51,49,51,50,51,51,51,52,51,53,51,54,51,55,51,56,51,57,52,48,52,49,52,50,52,51,52,52,52,53,52,54,52,55,52,56,52,57,53,48,53,49,53,50,53,51,53,52,53,53,53,54,53,55,53,56,53,57,54,48,54,49,54,50,54,51,54,52,54,53,54,54,54,55,54,56,54,57,55,48,55,49,55,50,55,51,55,52,55,53,55,54,55,55,55,56,55,57,56,48,56,49,56,50,56,51,56,52,56,53,56,54,56,55,56,56,56,57,57,48,57,49,57,50,57,51,57,52,57,53,57,54,57,55,57,56,57,57])) (.t 88))),none,192⟩,
⟨(some 90),(.q (.mv (.t 10))),none,0⟩,
⟨(some 91),(.q (.idxStr (.c (.str [48,48,48,49,48,50,48,51,48,52,48,53,48,54,48,55,48,56,48,57,49,48,49,49,49,50,49,51,49,52,49,53,49,54,49,55,49,56,49,57,50,48,50,49,50,50,50,51,50,52,50,53,50,54,50,55,50,56,50,57,51,48,51,49,51,50,51,51,51,52,51,53,51,54,51,55,51,56,51,57,52,48,52,49,52,50,52,51,52,52,52,53,52,54,52,55,52,56,52,57,53,48,53,49,53,50,53,51,53,52,53,53,53,54,53,55,53,56,53,57,54,48,54,49,54,50,54,51,54,52,54,53,54,54,54,55,54,56,54,57,55,48,55,49,55,50,55,51,55,52,55,53,55,54,55,55,55,56,55,57,56,48,56,49,56,50,56,51,56,52,56,53,56,54,56,55,56,56,56,57,57,48,57,49,57,50,57,51,57,52,57,53,57,54,57,55,57,56,57,57])) (.t 90))),none,512⟩,
⟨(some 92),(.q (.iaddr (.slice 1) (.t 81) (.t 83))),none,455⟩,
⟨none,(.x (.st 1 (.t 92) (.t 89))),none,2503⟩,
⟨(some 93),(.q (.iaddr (.slice 1) (.t 84) (.t 86))),none,8191⟩,
⟨none,(.x (.st 1 (.t 93) (.t 91))),none,16383⟩])
(.reg [⟨(some 94),(.q (.mv (.t 4))),none,0⟩,
⟨(some 95),(.q (.bin .sub (.p .int) (.t 94) (.c (.int .i64 (.ofNat 8))))),none,0⟩,
⟨(some 4),(.q (.mv (.t 95))),none,0⟩]))))))))))))))
(.seq (.reg [⟨(some 96),(.q (.mv (.t 1))),none,0⟩,
⟨(some 97),(.q (.conv (.int .u32) (.t 96))),none,0⟩,
⟨(some 12),(.q (.mv (.t 97))),none,0⟩])
(.seq (.seq (.reg [⟨(some 98),(.q (.mv (.t 4))),none,0⟩,
⟨(some 99),(.q (.bin .geq (.p .int) (.t 98) (.c (.int .i64 (.ofNat 4))))),none,0⟩])
(.cond (.t 99) (.seq (.reg [⟨(some 100),(.q (.mv (.t 12))),none,0⟩,
⟨(some 101),(.q (.bin .rem (.p .int) (.t 100) (.c (.int .u32 (.ofNat 10000))))),none,0⟩,
⟨(some 13),(.q (.mv (.t 101))),none,0⟩])
(.seq (.reg [⟨(some 102),(.q (.mv (.t 12))),none,0⟩,
⟨(some 103),(.q (.bin .quo (.p .int) (.t 102) (.c (.int .u32 (.ofNat 10000))))),none,0⟩,
⟨(some 12),(.q (.mv (.t 103))),none,0⟩])
(.seq (.reg [⟨(some 104),(.q (.mv (.t 13))),none,0⟩,
⟨(some 105),(.q (.bin .quo (.p .int) (.t 104) (.c (.int .u32 (.ofNat 100))))),none,0⟩,
⟨(some 106),(.q (.bin .mul (.p .int) (.t 105) (.c (.int .u32 (.ofNat 2))))),none,0⟩,
⟨(some 107),(.q (.mv (.t 13))),none,0⟩,
⟨(some 108),(.q (.bin .rem (.p .int) (.t 107) (.c (.int .u32 (.ofNat 100))))),none,0⟩,
⟨(some 109),(.q (.bin .mul (.p .int) (.t 108) (.c (.int .u32 (.ofNat 2))))),none,0⟩,
⟨(some 14),(.q (.mv (.t 106))),none,0⟩,
⟨(some 15),(.q (.mv (.t 109))),none,0⟩])
(.seq (.drw [⟨(some 110),(.q (.mv (.t 0))),none,0⟩,
⟨(some 111),(.q (.mv (.t 4))),none,0⟩,
⟨(some 112),(.q (.bin .sub (.p .int) (.t 111) (.c (.int .i64 (.ofNat 1))))),none,2⟩,
⟨(some 113),(.q (.mv (.t 0))),none,0⟩,
⟨(some 114),(.q (.mv (.t 4))),none,0⟩,
⟨(some 115),(.q (.bin .sub (.p .int) (.t 114) (.c (.int .i64 (.ofNat 2))))),none,16⟩,
⟨(some 116),(.q (.mv (.t 15))),none,0⟩,
⟨(some 117),(.q (.bin .add (.p .int) (.t 116) (.c (.int .u32 (.ofNat 1))))),none,64⟩,
⟨(some 118),(.q (.idxStr (.c (.str [48,48,48,49,48,50,48,51,48,52,48,53,48,54,48,55,48,56,48,57,49,48,49,49,49,50,49,51,49,52,49,53,49,54,49,55,49,56,49,57,50,48,50,49,50,50,50,51,50,52,50,53,50,54,50,55,50,56,50,57,51,48,51,49,51,50,51,51,51,52,51,53,51,54,51,55,51,56,51,57,52,48,52,49,52,50,52,51,52,52,52,53,52,54,52,55,52,56,52,57,53,48,53,49,53,50,53,51,53,52,53,53,53,54,53,55,53,56,53,57,54,48,54,49,54,50,54,51,54,52,54,53,54,54,54,55,54,56,54,57,55,48,55,49,55,50,55,51,55,52,55,53,55,54,55,55,55,56,55,57,56,48,56,49,56,50,56,51,56,52,56,53,56,54,56,55,56,56,56,57,57,48,57,49,57,50,57,51,57,52,57,53,57,54,57,55,57,56,57,57])) (.t 117))),none,192⟩,
⟨(some 119),(.q (.mv (.t 15))),none,0⟩,
⟨(some 120),(.q (.idxStr (.c (.str [48,48,48,49,48,50,48,51,48,52,48,53,48,54,48,55,48,56,48,57,49,48,49,49,49,50,49,51,49,52,49,53,49,54,49,55,49,56,49,57,50,48,50,49,50,50,50,51,50,52,50,53,50,54,50,55,50,56,50,57,51,48,51,49,51,50,51,51,51,52,51,53,51,54,51,55,51,56,51,57,52,48,52,49,52,50,52,51,52,52,52,53,52,54,52,55,52,56,52,57,53,48,53,49,53,50,53,51,53,52,53,53,53,54,53,55,53,56,53,57,54,48,54,49,54,50,54,51,54,52,54,53,54,54,54,55,54,56,54,57,55,48,55,49,55,50,55,51,55,52,55,53,55,54,55,55,55,56,55,57,56,48,56,49,56,50,56,51,56,52,56,53,56,54,56,55,56,56,56,57,57,48,57,49,57,50,57,51,57,52,57,53,57,54,57,55,57,56,57,57])) (.t 119))),none,512⟩,
⟨(some 121),(.q (.iaddr (.slice 1) (.t 110) (.t 112))),none,455⟩,
⟨none,(.x (.st 1 (.t 121) (.t 118))),none,2503⟩,
⟨(some 122),(.q (.iaddr (.slice 1) (.t 113) (.t 115))),none,8191⟩,
⟨none,(.x (.st 1 (.t 122) (.t 120))),none,16383⟩])
(.seq (.drw [⟨(some 123),(.q (.mv (.t 0))),none,0⟩,
⟨(some 124),(.q (.mv (.t 4))),none,0⟩,
⟨(some 125),(.q (.bin .sub (.p .int) (.t 124) (.c (.int .i64 (.ofNat 3))))),none,2⟩,
⟨(some 126),(.q (.mv (.t 0))),none,0⟩,
⟨(some 127),(.q (.mv (.t 4))),none,0⟩,
⟨(some 128),(.q (.bin .sub (.p .int) (.t 127) (.c (.int .i64 (.ofNat 4))))),none,16⟩,
⟨(some 129),(.q (.mv (.t 14))),none,0⟩,
⟨(some 130),(.q (.bin .add (.p .int) (.t 129) (.c (.int .u32 (.ofNat 1))))),none,64⟩,
⟨(some 131),(.q (.idxStr (.c (.str [48,48,48,49,48,50,48,51,48,52,48,53,48,54,48,55,48,56,48,57,49,48,49,49,49,50,49,51,49,52,49,53,49,54,49,55,49,56,49,57,50,48,50,49,50,50,50,51,50,52,50,53,50,54,50,55,50,56,50,57,51,48,51,49,51,50,51,51,51,52,51,53,51,54,51,55,51,56,51,57,52,48,52,49,52,50,52,51,52,52,52,53,52,54,52,55,52,56,52,57,53,48,53,49,53,50,53,51,53,52,53,53,53,54,53,55,53,56,53,57,54,48,54,49,54,50,54,51,54,52,54,53,54,54,54,55,54,56,54,57,55,48,55,49,55,50,55,51,55,52,55,53,55,54,55,55,55,56,55,57,56,48,56,49,56,50,56,51,56,52,56,53,56,54,56,55,56,56,56,57,57,48,57,49,57,50,57,51,57,52,57,53,57,54,57,55,57,56,57,57])) (.t 130))),none,192⟩,
⟨(some 132),(.q (.mv (.t 14))),none,0⟩,
⟨(some 133),(.q (.idxStr (.c (.str [48,48,48,49,48,50,48,51,48,52,48,53,48,54,48,55,48,56,48,57,49,48,49,49,49,50,49,51,49,52,49,53,49,54,49,55,49,56,49,57,50,48,50,49,50,50,50,51,50,52,50,53,50,54,50,55,50,56,50,57,51,48,51,49,51,50,51,51,51,52,51,53,51,54,51,55,51,56,51,57,52,48,52,49,52,50,52,51,52,52,52,53,52,54,52,55,52,56,52,57,53,48,53,49,53,50,53,51,53,52,53,53,53,54,53,55,53,56,53,57,54,48,54,49,54,50,54,51,54,52,54,53,54,54,54,55,54,56,54,57,55,48,55,49,55,50,55,51,55,52,55,53,55,54,55,55,55,56,55,57,56,48,56,49,56,50,56,51,56,52,56,53,56,54,56,55,56,56,56,57,57,48,57,49,57,50,57,51,57,52,57,53,57,54,57,55,57,56,57,57])) (.t 132))),none,512⟩,
⟨(some 134),(.q (.iaddr (.slice 1) (.t 123) (.t 125))),none,455⟩,
⟨none,(.x (.st 1 (.t 134) (.t 131))),none,2503⟩,
⟨(some 135),(.q (.iaddr (.slice 1) (.t 126) (.t 128))),none,8191⟩,
⟨none,(.x (.st 1 (.t 135) (.t 133))),none,16383⟩])
(.reg [⟨(some 136),(.q (.mv (.t 4))),none,0⟩,
⟨(some 137),(.q (.bin .sub (.p .int) (.t 136) (.c (.int .i64 (.ofNat 4))))),none,0⟩,
⟨(some 4),(.q (.mv (.t 137))),none,0⟩])))))) .skip))
(.seq (.seq (.reg [⟨(some 138),(.q (.mv (.t 4))),none,0⟩,
⟨(some 139),(.q (.bin .geq (.p .int) (.t 138) (.c (.int .i64 (.ofNat 2))))),none,0⟩])
(.cond (.t 139) (.seq (.reg [⟨(some 140),(.q (.mv (.t 12))),none,0⟩,
⟨(some 141),(.q (.bin .rem (.p .int) (.t 140) (.c (.int .u32 (.ofNat 100))))),none,0⟩,
⟨(some 142),(.q (.bin .mul (.p .int) (.t 141) (.c (.int .u32 (.ofNat 2))))),none,0⟩,
⟨(some 16),(.q (.mv (.t 142))),none,0⟩])
(.seq (.reg [⟨(some 143),(.q (.mv (.t 12))),none,0⟩,
⟨(some 144),(.q (.bin .quo (.p .int) (.t 143) (.c (.int .u32 (.ofNat 100))))),none,0⟩,
⟨(some 12),(.q (.mv (.t 144))),none,0⟩])
(.seq (.drw [⟨(some 145),(.q (.mv (.t 0))),none,0⟩,
⟨(some 146),(.q (.mv (.t 4))),none,0⟩,
⟨(some 147),(.q (.bin .sub (.p .int) (.t 146) (.c (.int .i64 (.ofNat 1))))),none,2⟩,
⟨(some 148),(.q (.mv (.t 0))),none,0⟩,
⟨(some 149),(.q (.mv (.t 4))),none,0⟩,
⟨(some 150),(.q (.bin .sub (.p .int) (.t 149) (.c (.int .i64 (.ofNat 2))))),none,16⟩,
⟨(some 151),(.q (.mv (.t 16))),none,0⟩,
⟨(some 152),(.q (.bin .add (.p .int) (.t 151) (.c (.int .u32 (.ofNat 1))))),none,64⟩,
⟨(some 153),(.q (.idxStr (.c (.str [48,48,48,49,48,50,48,51,48,52,48,53,48,54,48,55,48,56,48,57,49,48,49,49,49,50,49,51,49,52,49,53,49,54,49,55,49,56,49,57,50,48,50,49,50,50,50,51,50,52,50,53,50,54,50,55,50,56,50,57,51,48,51,49,51,50,51,51,51,52,51,53,51,54,51,55,51,56,51,57,52,48,52,49,52,50,52,51,52,52,52,53,52,54,52,55,52,56,52,57,53,48,53,49,53,50,53,51,53,52,53,53,53,54,53,55,53,56,53,57,54,48,54,49,54,50,54,51,54,52,54,53,54,54,54,55,54,56,54,57,55,48,55,49,55,50,55,51,55,52,55,53,55,54,55,55,55,56,55,57,56,48,56,49,56,50,56,51,56,52,56,53,56,54,56,55,56,56,56,57,57,48,57,49,57,50,57,51,57,52,57,53,57,54,57,55,57,56,57,57])) (.t 152))),none,192⟩,
⟨(some 154),(.q (.mv (.t 16))),none,0⟩,
⟨(some 155),(.q (.idxStr (.c (.str [48,48,48,49,48,50,48,51,48,52,48,53,48,54,48,55,48,56,48,57,49,48,49,49,49,50,49,51,49,52,49,53,49,54,49,55,49,56,49,57,50,48,50,49,50,50,50,51,50,52,50,53,50,54,50,55,50,56,50,57,51,48,51,49,51,50,51,51,51,52,51,53,51,54,51,55,51,56,51,57,52,48,52,49,52,50,52,51,52,52,52,53,52,54,52,55,52,56,52,57,53,48,53,49,53,50,53,51,53,52,53,53,53,54,53,55,53,56,53,57,54,48,54,49,54,50,54,51,54,52,54,53,54,54,54,55,54,56,54,57,55,48,55,49,55,50,55,51,55,52,55,53,55,54,55,55,55,56,55,57,56,48,56,49,56,50,56,51,56,52,56,53,56,54,56,55,56,56,56,57,57,48,57,49,57,50,57,51,57,52,57,53,57,54,57,55,57,56,57,57])) (.t 154))),none,512⟩,
⟨(some 156),(.q (.iaddr (.slice 1) (.t 145) (.t 147))),none,455⟩,
⟨none,(.x (.st 1 (.t 156) (.t 153))),none,2503⟩,
⟨(some 157),(.q (.iaddr (.slice 1) (.t 148) (.t 150))),none,8191⟩,
⟨none,(.x (.st 1 (.t 157) (.t 155))),none,16383⟩])
(.reg [⟨(some 158),(.q (.mv (.t 4))),none,0⟩,
⟨(some 159),(.q (.bin .sub (.p .int) (.t 158) (.c (.int .i64 (.ofNat 2))))),none,0⟩,
⟨(some 4),(.q (.mv (.t 159))),none,0⟩])))) .skip))
(.seq (.reg [⟨(some 160),(.q (.mv (.t 4))),none,0⟩,
⟨(some 161),(.q (.bin .gtr (.p .int) (.t 160) (.c (.int .i64 (.ofNat 0))))),none,0⟩])
(.cond (.t 161) (.reg [⟨(some 162),(.q (.mv (.t 0))),none,0⟩,
⟨(some 163),(.q (.mv (.t 12))),none,0⟩,
⟨(some 164),(.q (.bin .add (.p .int) (.c (.int .u32 (.ofNat 48))) (.t 163))),none,0⟩,
⟨(some 165),(.q (.conv (.int .u8) (.t 164))),none,0⟩,
⟨(some 166),(.q (.iaddr (.slice 1) (.t 162) (.c (.int .i64 (.ofNat 0))))),none,0⟩,
⟨none,(.x (.st 1 (.t 166) (.t 165))),none,0⟩]) .skip)))))))⟩
theorem row107 : Row Tryd.prog (107, a107) := ⟨Tryd.f107, Tryd.func107, by kernel_rfl⟩
noncomputable def a108 : AFn :=
⟨102,[(.t 10),(.t 11)],(.seq (.reg [⟨(some 10),(.q (.mv (.c .nilsl))),none,0⟩,
⟨(some 11),(.q (.mv (.c (.str [])))),none,0⟩])
(.seq (.seq (.reg [⟨(some 19),(.q (.mv (.t 2))),none,0⟩,
⟨(some 20),(.q (.bin .lss (.p .int) (.t 19) (.c (.int .i64 (.ofNat 2))))),none,0⟩,
⟨(some 21),(.q (.mv (.t 20))),none,0⟩,
⟨(some 22),(.q (.mv (.t 2))),(some (21,false)),0⟩,
⟨(some 23),(.q (.bin .eql (.p .int) (.t 22) (.c (.int .i64 (.ofNat 10))))),(some (21,false)),0⟩,
⟨(some 24),(.q (.pick (.t 21) (.c (.bool true)) (.t 23))),none,0⟩,
⟨(some 25),(.q (.mv (.t 24))),none,0⟩,
⟨(some 26),(.q (.mv (.t 2))),(some (25,false)),0⟩,
⟨(some 27),(.q (.bin .gtr (.p .int) (.t 26) (.c (.int .i64 (.ofNat 36))))),(some (25,false)),0⟩,
⟨(some 28),(.q (.pick (.t 25) (.c (.bool true)) (.t 27))),none,0⟩])
(.cond (.t 28) (.reg [⟨(some 29),(.q (.mkIface 9 (.c (.str [115,116,114,99,111,110,118,58,32,105,108,108,101,103,97,108,32,65,112,112,101,110,100,73,110,116,47,70,111,114,109,97,116,73,110,116,32,98,97,115,101])))),none,0⟩,
⟨none,(.x (.bad)),none,0⟩]) .skip))
(.seq (.reg [⟨(some 12),(.a (.alloc 157 (repeatL [(.int .u8 (.ofNat 0))] 65))),none,0⟩])
(.seq (.reg [⟨(some 13),(.q (.mv (.c (.int .i64 (.ofNat 65))))),none,0⟩])
(.seq (.seq (.reg [⟨(some 30),(.q (.mv (.t 3))),none,0⟩])
(.cond (.t 30) (.reg [⟨(some 31),(.q (.mv (.t 1))),none,0⟩,
⟨(some 32),(.q (.un .neg (.t 31))),none,0⟩,
⟨(some 1),(.q (.mv (.t 32))),none,0⟩]) .skip))
(.seq (.seq (.reg [⟨(some 33),(.q (.mv (.t 2))),none,0⟩,
⟨(some 34),(.x (.call (.c (.fn 113 [] [])) [(.t 33)])),none,0⟩])
(.cond (.t 34) (.seq (.reg [⟨(some 35),(.q (.mv (.t 2))),none,0⟩,
⟨(some 36),(.q (.conv (.int .u64) (.t 35))),none,0⟩,
⟨(some 37),(.x (.call (.c (.fn 114 [] [])) [(.t 36)])),none,0⟩,
⟨(some 38),(.q (.conv (.int .u64) (.t 37))),none,0⟩,
⟨(some 14),(.q (.mv (.t 38))),none,0⟩])
(.seq (.reg [⟨(some 39),(.q (.mv (.t 2))),none,0⟩,
⟨(some 40),(.q (.conv (.int .u64) (.t 39))),none,0⟩,
⟨(some 15),(.q (.mv (.t 40))),none,0⟩])
(.seq (.reg [⟨(some 41),(.q (.mv (.t 2))),none,0⟩,
⟨(some 42),(.q (.conv (.int .u64) (.t 41))),none,0⟩,
⟨(some 43),(.q (.bin .sub (.p .int) (.t 42) (.c (.int .u64 (.ofNat 1))))),none,0⟩,
⟨(some 16),(.q (.mv (.t 43))),none,0⟩])
(.seq (.block 0 (.loop (.seq (.seq (.reg [⟨(some 44),(.q (.mv (.t 1))),none,0⟩,
⟨(some 45),(.q (.mv (.t 15))),none,0⟩,
⟨(some 46),(.q (.bin .geq (.p .int) (.t 44) (.t 45))),none,0⟩])
(.cond (.t 46) .skip (.exit 0)))
(.block 1 (.seq (.reg [⟨(some 47),(.q (.mv (.t 13))),none,0⟩,
⟨(some 48),(.q (.bin .sub (.p .int) (.t 47) (.c (.int .i64 (.ofNat 1))))),none,0⟩,
⟨(some 13),(.q (.mv (.t 48))),none,0⟩])
(.seq (.reg [⟨(some 49),(.q (.mv (.t 13))),none,0⟩,
⟨(some 50),(.q (.mv (.t 1))),none,0⟩,
⟨(some 51),(.q (.mv (.t 16))),none,0⟩,
⟨(some 52),(.q (.bin .and (.p .int) (.t 50) (.t 51))),none,0⟩,
⟨(some 53),(.q (.idxStr (.c (.str [48,49,50,51,52,53,54,55,56,57,97,98,99,100,101,102,103,104,105,106,107,108,109,110,111,112,113,114,115,116,117,118,119,120,121,122])) (.t 52))),none,0⟩,
⟨(some 54),(.q (.iaddr (.arr 65 1) (.t 12) (.t 49))),none,0⟩,
⟨none,(.x (.st 1 (.t 54) (.t 53))),none,0⟩])
(.reg [⟨(some 55),(.q (.mv (.t 1))),none,0⟩,
⟨(some 56),(.q (.mv (.t 14))),none,0⟩,
⟨(some 57),(.q (.bin .shr (.p .int) (.t 55) (.t 56))),none,0⟩,
⟨(some 1),(.q (.mv (.t 57))),none,0⟩])))))))
(.seq (.reg [⟨(some 58),(.q (.mv (.t 13))),none,0⟩,
⟨(some 59),(.q (.bin .sub (.p .int) (.t 58) (.c (.int .i64 (.ofNat 1))))),none,0⟩,
⟨(some 13),(.q (.mv (.t 59))),none,0⟩])
(.reg [⟨(some 60),(.q (.mv (.t 13))),none,0⟩,
⟨(some 61),(.q (.mv (.t 1))),none,0⟩,
⟨(some 62),(.q (.idxStr (.c (.str [48,49,50,51,52,53,54,55,56,57,97,98,99,100,101,102,103,104,105,106,107,108,109,110,111,112,113,114,115,116,117,118,119,120,121,122])) (.t 61))),none,0⟩,
⟨(some 63),(.q (.iaddr (.arr 65 1) (.t 12) (.t 60))),none,0⟩,
⟨none,(.x (.st 1 (.t 63) (.t 62))),none,0⟩])))))) (.seq (.reg [⟨(some 64),(.q (.mv (.t 2))),none,0⟩,
⟨(some 65),(.q (.conv (.int .u64) (.t 64))),none,0⟩,
⟨(some 17),(.q (.mv (.t 65))),none,0⟩])
(.seq (.block 2 (.loop (.seq (.seq (.reg [⟨(some 66),(.q (.mv (.t 1))),none,0⟩,
⟨(some 67),(.q (.mv (.t 17))),none,0⟩,
⟨(some 68),(.q (.bin .geq (.p .int) (.t 66) (.t 67))),none,0⟩])
(.cond (.t 68) .skip (.exit 2)))
(.block 3 (.seq (.reg [⟨(some 69),(.q (.mv (.t 13))),none,0⟩,
⟨(some 70),(.q (.bin .sub (.p .int) (.t 69) (.c (.int .i64 (.ofNat 1))))),none,0⟩,
⟨(some 13),(.q (.mv (.t 70))),none,0⟩])
(.seq (.reg [⟨(some 71),(.q (.mv (.t 1))),none,0⟩,
⟨(some 72),(.q (.mv (.t 17))),none,0⟩,
⟨(some 73),(.q (.bin .quo (.p .int) (.t 71) (.t 72))),none,0⟩,
⟨(some 18),(.q (.mv (.t 73))),none,0⟩])
(.seq (.reg [⟨(some 74),(.q (.mv (.t 13))),none,0⟩,
⟨(some 75),(.q (.mv (.t 1))),none,0⟩,
⟨(some 76),(.q (.mv (.t 18))),none,0⟩,
⟨(some 77),(.q (.mv (.t 17))),none,0⟩,
⟨(some 78),(.q (.bin .mul (.p .int) (.t 76) (.t 77))),none,0⟩,
⟨(some 79),(.q (.bin .sub (.p .int) (.t 75) (.t 78))),none,0⟩,
⟨(some 80),(.q (.idxStr (.c (.str [48,49,50,51,52,53,54,55,56,57,97,98,99,100,101,102,103,104,105,106,107,108,109,110,111,112,113,114,115,116,117,118,119,120,121,122])) (.t 79))),none,0⟩,
⟨(some 81),(.q (.iaddr (.arr 65 1) (.t 12) (.t 74))),none,0⟩,
⟨none,(.x (.st 1 (.t 81) (.t 80))),none,0⟩])
(.reg [⟨(some 82),(.q (.mv (.t 18))),none,0⟩,
⟨(some 1),(.q (.mv (.t 82))),none,0⟩]))))))))
(.seq (.reg [⟨(some 83),(.q (.mv (.t 13))),none,0⟩,
⟨(some 84),(.q (.bin .sub (.p .int) (.t 83) (.c (.int .i64 (.ofNat 1))))),none,0⟩,
⟨(some 13),(.q (.mv (.t 84))),none,0⟩])
(.reg [⟨(some 85),(.q (.mv (.t 13))),none,0⟩,
⟨(some 86),(.q (.mv (.t 1))),none,0⟩,
⟨(some 87),(.q (.idxStr (.c (.str [48,49,50,51,52,53,54,55,56,57,97,98,99,100,101,102,103,104,105,106,107,108,109,110,111,112,113,114,115,116,117,118,119,120,121,122])) (.t 86))),none,0⟩,
⟨(some 88),(.q (.iaddr (.arr 65 1) (.t 12) (.t 85))),none,0⟩,
⟨none,(.x (.st 1 (.t 88) (.t 87))),none,0⟩]))))))
(.seq (.seq (.reg [⟨(some 89),(.q (.mv (.t 3))),none,0⟩])
(.cond (.t 89) (.seq (.reg [⟨(some 90),(.q (.mv (.t 13))),none,0⟩,
⟨(some 91),(.q (.bin .sub (.p .int) (.t 90) (.c (.int .i64 (.ofNat 1))))),none,0⟩,
⟨(some 13),(.q (.mv (.t 91))),none,0⟩])
(.reg [⟨(some 92),(.q (.mv (.t 13))),none,0⟩,
⟨(some 93),(.q (.iaddr (.arr 65 1) (.t 12) (.t 92))),none,0⟩,
⟨none,(.x (.st 1 (.t 93) (.c (.int .u8 (.ofNat 45))))),none,0⟩])) .skip))
(.seq (.seq (.reg [⟨(some 94),(.q (.mv (.t 4))),none,0⟩])
(.cond (.t 94) (.seq (.reg [⟨(some 95),(.q (.mv (.t 0))),none,0⟩,
⟨(some 96),(.q (.mv (.t 13))),none,0⟩,
⟨(some 97),(.q (.slc (.arr 65 1) (.t 12) (some (.t 96)) none none)),none,0⟩,
⟨(some 98),(.x (.app 5 1 1 (.t 95) (.t 97))),none,0⟩,
⟨(some 10),(.q (.mv (.t 98))),none,0⟩])
.ret) .skip))
(.seq (.reg [⟨(some 99),(.q (.mv (.t 13))),none,0⟩,
⟨(some 100),(.q (.slc (.arr 65 1) (.t 12) (some (.t 99)) none none)),none,0⟩,
⟨(some 101),(.q (.conv .bytesToStr (.t 100))),none,0⟩,
⟨(some 11),(.q (.mv (.t 101))),none,0⟩])
.ret)))))))))⟩
theorem row108 : Row Tryd.prog (108, a108) := ⟨Tryd.f108, Tryd.func108, by kernel_rfl⟩
noncomputable def a109 : AFn :=
⟨32,[(.t 10),(.t 11)],(.seq (.reg [⟨(some 10),(.q (.mv (.c (.int .i64 (.ofNat 0))))),none,0⟩,
⟨(some 11),(.q (.mv (.c (.int .i64 (.ofNat 0))))),none,0⟩])
(.seq (.seq (.drw [⟨(some 12),(.q (.mv (.t 4))),none,0⟩,
⟨(some 13),(.q (.mv (.t 0))),none,0⟩,
⟨(some 14),(.q (.mv (.t 2))),none,0⟩,
⟨(some 15),(.q (.iaddr (.slice 1) (.t 13) (.t 14))),none,6⟩,
⟨(some 16),(.q (.ld false 1 (.t 15))),none,14⟩,
⟨(some 17),(.q (.mv (.t 0))),none,0⟩,
⟨(some 18),(.q (.mv (.t 1))),none,0⟩,
⟨(some 19),(.q (.iaddr (.slice 1) (.t 17) (.t 18))),none,96⟩,
⟨(some 20),(.q (.ld false 1 (.t 19))),none,224⟩,
⟨(some 21),(.x (.call (.t 12) [(.t 16),(.t 20)])),none,511⟩,
⟨(some 22),(.q (.bin .lss (.p .int) (.t 21) (.c (.int .i64 (.ofNat 0))))),none,1023⟩])
(.cond (.t 22) (.seq (.reg [⟨(some 23),(.q (.mv (.t 3))),none,0⟩,
⟨(some 24),(.q (.nilchk (.t 23))),none,0⟩,
⟨(some 25),(.q (.ld false 1 (.t 24))),none,0⟩,
⟨(some 26),(.q (.bin .add (.p .int) (.t 25) (.c (.int .i64 (.ofNat 1))))),none,0⟩,
⟨(some 27),(.q (.nilchk (.t 23))),none,0⟩,
⟨none,(.x (.st 1 (.t 27) (.t 26))),none,0⟩])
(.seq (.reg [⟨(some 28),(.q (.mv (.t 2))),none,0⟩,
⟨(some 29),(.q (.mv (.t 1))),none,0⟩,
⟨(some 10),(.q (.mv (.t 28))),none,0⟩,
⟨(some 11),(.q (.mv (.t 29))),none,0⟩])
.ret)) .skip))
(.seq (.reg [⟨(some 30),(.q (.mv (.t 1))),none,0⟩,
⟨(some 31),(.q (.mv (.t 2))),none,0⟩,
⟨(some 10),(.q (.mv (.t 30))),none,0⟩,
⟨(some 11),(.q (.mv (.t 31))),none,0⟩])
.ret)))⟩
theorem row109 : Row Tryd.prog (109, a109) := ⟨Tryd.f109, Tryd.func109, by kernel_rfl⟩
noncomputable def a110 : AFn :=
⟨19,[(.t 4)],(.seq (.reg [⟨(some 4),(.q (.mv (.c (.int .i64 (.ofNat 0))))),none,0⟩])
(.seq (.seq (.reg [⟨(some 6),(.q (.mv (.t 0))),none,0⟩,
⟨(some 7),(.q (.lenSl (.t 6))),none,0⟩,
⟨(some 8),(.q (.mv (.c (.int .i64 (.ofNat 0))))),none,0⟩])
(.block 0 (.loop (.seq (.reg [⟨(some 9),(.q (.bin .lss (.p .int) (.t 8) (.t 7))),none,0⟩])
(.seq (.cond (.t 9) .skip (.exit 0))
(.seq (.block 1 (.seq (.reg [⟨(some 10),(.q (.mv (.t 8))),none,0⟩,
⟨(some 5),(.q (.mv (.t 10))),none,0⟩])
(.seq (.reg [⟨(some 11),(.q (.mv (.t 1))),none,0⟩,
⟨(some 12),(.q (.mv (.t 0))),none,0⟩,
⟨(some 13),(.q (.mv (.t 5))),none,0⟩,
⟨(some 14),(.q (.iaddr (.slice 1) (.t 12) (.t 13))),none,0⟩,
⟨(some 15),(.q (.ld false 1 (.t 14))),none,0⟩,
⟨(some 16),(.x (.call (.t 11) [(.t 15)])),none,0⟩])
(.cond (.t 16) (.seq (.reg [⟨(some 17),(.q (.mv (.t 5))),none,0⟩,
⟨(some 4),(.q (.mv (.t 17))),none,0⟩])
.ret) .skip))))
(.reg [⟨(some 18),(.q (.bin .add (.p .int) (.t 8) (.c (.int .i64 (.ofNat 1))))),none,0⟩,
⟨(some 8),(.q (.mv (.t 18))),none,0⟩])))))))
(.seq (.reg [⟨(some 4),(.q (.mv (.c (.int .i64 (.negSucc 0))))),none,0⟩])
.ret)))⟩
theorem row110 : Row Tryd.prog (110, a110) := ⟨Tryd.f110, Tryd.func110, by kernel_rfl⟩
noncomputable def a111 : AFn :=
⟨6,[(.t 2)],(.seq (.reg [⟨(some 2),(.q (.mv (.c (.int .i64 (.ofNat 0))))),none,0⟩])
(.seq (.reg [⟨(some 3),(.q (.mv (.t 0))),none,0⟩,
⟨(some 4),(.q (.bin .mul (.p .int) (.t 3) (.c (.int .i64 (.ofNat 78913))))),none,0⟩,
⟨(some 5),(.q (.bin .shr (.p .int) (.t 4) (.c (.int .u64 (.ofNat 18))))),none,0⟩,
⟨(some 2),(.q (.mv (.t 5))),none,0⟩])
.ret))⟩
theorem row111 : Row Tryd.prog (111, a111) := ⟨Tryd.f111, Tryd.func111, by kernel_rfl⟩
noncomputable def a112 : AFn :=
⟨4,[(.t 2)],(.seq (.reg [⟨(some 2),(.q (.mv (.c (.int .i64 (.ofNat 0))))),none,0⟩])
(.seq (.seq (.reg [⟨(some 3),(.q (.mv (.t 0))),none,0⟩])
(.cond (.t 3) (.seq (.reg [⟨(some 2),(.q (.mv (.c (.int .i64 (.ofNat 1))))),none,0⟩])
.ret) .skip))
(.seq (.reg [⟨(some 2),(.q (.mv (.c (.int .i64 (.ofNat 0))))),none,0⟩])
.ret)))⟩
theorem row112 : Row Tryd.prog (112, a112) := ⟨Tryd.f112, Tryd.func112, by kernel_rfl⟩
noncomputable def a113 : AFn :=
⟨8,[(.t 2)],(.seq (.reg [⟨(some 2),(.q (.mv (.c (.bool false)))),none,0⟩])
(.seq (.reg [⟨(some 3),(.q (.mv (.t 0))),none,0⟩,
⟨(some 4),(.q (.mv (.t 0))),none,0⟩,
⟨(some 5),(.q (.bin .sub (.p .int) (.t 4) (.c (.int .i64 (.ofNat 1))))),none,0⟩,
⟨(some 6),(.q (.bin .and (.p .int) (.t 3) (.t 5))),none,0⟩,
⟨(some 7),(.q (.bin .eql (.p .int) (.t 6) (.c (.int .i64 (.ofNat 0))))),none,0⟩,
⟨(some 2),(.q (.mv (.t 7))),none,0⟩])
.ret))⟩
theorem row113 : Row Tryd.prog (113, a113) := ⟨Tryd.f113, Tryd.func113, by kernel_rfl⟩
noncomputable def a114 : AFn :=
⟨8,[(.t 2)],(.seq (.reg [⟨(some 2),(.q (.mv (.c (.int .i64 (.ofNat 0))))),none,0⟩])
(.seq (.cond (.c (.bool false)) (.seq (.reg [⟨(some 3),(.q (.mv (.t 0))),none,0⟩,
⟨(some 4),(.q (.conv (.int .u32) (.t 3))),none,0⟩,
⟨(some 5),(.x (.call (.c (.fn 115 [] [])) [(.t 4)])),none,0⟩,
⟨(some 2),(.q (.mv (.t 5))),none,0⟩])
.ret) .skip)
(.seq (.reg [⟨(some 6),(.q (.mv (.t 0))),none,0⟩,
⟨(some 7),(.x (.call (.c (.fn 116 [] [])) [(.t 6)])),none,0⟩,
⟨(some 2),(.q (.mv (.t 7))),none,0⟩])
.ret)))⟩
theorem row114 : Row Tryd.prog (114, a114) := ⟨Tryd.f114, Tryd.func114, by kernel_rfl⟩
noncomputable def a115 : AFn :=
⟨14,[(.t 2)],(.seq (.reg [⟨(some 2),(.q (.mv (.c (.int .i64 (.ofNat 0))))),none,0⟩])
(.seq (.seq (.reg [⟨(some 3),(.q (.mv (.t 0))),none,0⟩,
⟨(some 4),(.q (.bin .eql (.p .int) (.t 3) (.c (.int .u32 (.ofNat 0))))),none,0⟩])
(.cond (.t 4) (.seq (.reg [⟨(some 2),(.q (.mv (.c (.int .i64 (.ofNat 32))))),none,0⟩])
.ret) .skip))
(.seq (.reg [⟨(some 5),(.q (.mv (.t 0))),none,0⟩,
⟨(some 6),(.q (.mv (.t 0))),none,0⟩,
⟨(some 7),(.q (.un .neg (.t 6))),none,0⟩,
⟨(some 8),(.q (.bin .and (.p .int) (.t 5) (.t 7))),none,0⟩,
⟨(some 9),(.q (.bin .mul (.p .int) (.t 8) (.c (.int .u32 (.ofNat 125613361))))),none,0⟩,
⟨(some 10),(.q (.bin .shr (.p .int) (.t 9) (.c (.int .u64 (.ofNat 27))))),none,0⟩,
⟨(some 11),(.q (.iaddr (.arr 32 1) (.c (.ptr 1 0)) (.t 10))),none,0⟩,
⟨(some 12),(.q (.ld false 1 (.t 11))),none,0⟩,
⟨(some 13),(.q (.conv (.int .i64) (.t 12))),none,0⟩,
⟨(some 2),(.q (.mv (.t 13))),none,0⟩])
.ret)))⟩
theorem row115 : Row Tryd.prog (115, a115) := ⟨Tryd.f115, Tryd.func115, by kernel_rfl⟩
noncomputable def a116 : AFn :=
⟨14,[(.t 2)],(.seq (.reg [⟨(some 2),(.q (.mv (.c (.int .i64 (.ofNat 0))))),none,0⟩])
(.seq (.seq (.reg [⟨(some 3),(.q (.mv (.t 0))),none,0⟩,
⟨(some 4),(.q (.bin .eql (.p .int) (.t 3) (.c (.int .u64 (.ofNat 0))))),none,0⟩])
(.cond (.t 4) (.seq (.reg [⟨(some 2),(.q (.mv (.c (.int .i64 (.ofNat 64))))),none,0⟩])
.ret) .skip))
(.seq (.reg [⟨(some 5),(.q (.mv (.t 0))),none,0⟩,
⟨(some 6),(.q (.mv (.t 0))),none,0⟩,
⟨(some 7),(.q (.un .neg (.t 6))),none,0⟩,
⟨(some 8),(.q (.bin .and (.p .int) (.t 5) (.t 7))),none,0⟩,
⟨(some 9),(.q (.bin .mul (.p .int) (.t 8) (.c (.int .u64 (.ofNat 285870213051353865))))),none,0⟩,
⟨(some 10),(.q (.bin .shr (.p .int) (.t 9) (.c (.int .u64 (.ofNat 58))))),none,0⟩,
⟨(some 11),(.q (.iaddr (.arr 64 1) (.c (.ptr 2 0)) (.t 10))),none,0⟩,
⟨(some 12),(.q (.ld false 1 (.t 11))),none,0⟩,
⟨(some 13),(.q (.conv (.int .i64) (.t 12))),none,0⟩,
⟨(some 2),(.q (.mv (.t 13))),none,0⟩])
.ret)))⟩
theorem row116 : Row Tryd.prog (116, a116) := ⟨Tryd.f116, Tryd.func116, by kernel_rfl⟩
end Go.Proofs.YtfmgnnfghdjpfaaDoor.mergeNames
