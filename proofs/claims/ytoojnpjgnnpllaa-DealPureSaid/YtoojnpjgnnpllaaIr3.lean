/- Functions of the program as data of the evaluator, written by program; each is shown to be the compiler's result on the loaded function. -/
import Derived.Test.YtoojnpjgnnpllaaProg
import Derived.Test.YtoojnpjgnnpllaaEv8
import Derived.KernelRfl
namespace Go.Ev.Gl
set_option maxRecDepth 100000
noncomputable def a172 : AFn :=
⟨16,[],(.seq (.reg [oq 5 (ld 1),
oq 6 (.lenSl (.t 5)),
oq 7 (.mv (ci 0))])
(.block 0 (.loop (.seq (.reg [oq 8 (bi .lss (.t 7) (.t 6))])
(.seq (.cond (.t 8) .skip (.exit 0))
(.seq (.block 1 (.seq (.reg [oq 9 (.iaddr (.slice 1) (.t 5) (.t 7)),
oq 10 (ld 9),
mt 4 10])
(.seq (.reg [mt 11 0,
mt 12 4,
⟨(some 13),(.x (.call (.t 11) [(.t 12)])),none,0⟩,
oq 14 (.un .not (.t 13))])
(.cond (.t 14) .ret .skip))))
(.reg [oq 15 (bi .add (.t 7) (ci 1)),
mt 7 15])))))))⟩
theorem row172 : Row Go.Proofs.Try.prog (172, a172) := ⟨Go.Proofs.Try.f172, Go.Proofs.Try.func172, by kernel_rfl⟩
noncomputable def a173 : AFn :=
⟨43,[(.t 4)],(.seq (.reg [⟨(some 3),(.a (.box 64 (.t 1))),none,0⟩,
oq 4 (.mv (ci 0))])
(.seq (.seq (.reg [oq 5 (.faddr 1 (.t 3)),
oq 6 (ld 5),
oq 7 (bi .neq (.t 6) (ci 0)),
mt 8 7,
og 9 8 false 0 (.faddr 2 (.t 3)),
og 10 8 false 0 (ld 9),
og 11 8 false 0 (bi .neq (.t 10) (ci 0)),
oq 12 (.pick (.t 8) (.c (.bool true)) (.t 11)),
mt 13 12,
og 14 13 false 0 (.faddr 5 (.t 3)),
og 15 13 false 0 (ld 14),
og 16 13 false 0 (.lenSl (.t 15)),
og 17 13 false 0 (bi .gtr (.t 16) (ci 0)),
oq 18 (.pick (.t 13) (.c (.bool true)) (.t 17)),
mt 19 18,
og 20 19 false 0 (.faddr 3 (.t 3)),
og 21 19 false 0 (ld 20),
og 22 19 false 0 (.lenSl (.t 21)),
og 23 19 false 0 (bi .lss (.t 22) (ci 1)),
oq 24 (.pick (.t 19) (.c (.bool true)) (.t 23)),
mt 25 24,
og 26 25 false 0 (.faddr 3 (.t 3)),
og 27 25 false 0 (ld 26),
og 28 25 false 0 (.lenSl (.t 27)),
og 29 25 false 0 (bi .gtr (.t 28) (ci 60)),
oq 30 (.pick (.t 25) (.c (.bool true)) (.t 29)),
mt 31 30,
og 32 31 false 0 (.faddr 4 (.t 3)),
og 33 31 false 0 (ld 32),
og 34 31 false 0 (.lenSl (.t 33)),
og 35 31 false 0 (.faddr 3 (.t 3)),
og 36 31 false 0 (ld 35),
og 37 31 false 0 (.lenSl (.t 36)),
og 38 31 false 0 (bi .neq (.t 34) (.t 37)),
oq 39 (.pick (.t 31) (.c (.bool true)) (.t 38))])
(.cond (.t 39) (.seq (.reg [oq 4 (.mv (ci 3))])
.ret) .skip))
(.seq (.reg [oq 40 (.faddr 4 (.t 3)),
oq 41 (ld 40),
oc 42 180 [(ci 1),(ci 1000),(.t 41)] 0,
mt 4 42])
.ret)))⟩
theorem row173 : Row Go.Proofs.Try.prog (173, a173) := ⟨Go.Proofs.Try.f173, Go.Proofs.Try.func173, by kernel_rfl⟩
noncomputable def a174 : AFn :=
⟨52,[(.t 4)],(.seq (.reg [⟨(some 3),(.a (.box 64 (.t 1))),none,0⟩,
oq 4 (.mv (ci 0))])
(.seq (.seq (.reg [oq 6 (.faddr 4 (.t 3)),
oq 7 (ld 6),
oq 8 (.lenSl (.t 7)),
oq 9 (bi .gtr (.t 8) (ci 0)),
mt 10 9,
og 11 10 false 0 (.faddr 5 (.t 3)),
og 12 10 false 0 (ld 11),
og 13 10 false 0 (.lenSl (.t 12)),
og 14 10 false 0 (bi .gtr (.t 13) (ci 0)),
oq 15 (.pick (.t 10) (.c (.bool true)) (.t 14)),
mt 16 15,
og 17 16 false 0 (.faddr 3 (.t 3)),
og 18 16 false 0 (ld 17),
og 19 16 false 0 (.lenSl (.t 18)),
og 20 16 false 0 (bi .lss (.t 19) (ci 1)),
oq 21 (.pick (.t 16) (.c (.bool true)) (.t 20)),
mt 22 21,
og 23 22 false 0 (.faddr 3 (.t 3)),
og 24 22 false 0 (ld 23),
og 25 22 false 0 (.lenSl (.t 24)),
og 26 22 false 0 (bi .gtr (.t 25) (ci 10)),
oq 27 (.pick (.t 22) (.c (.bool true)) (.t 26))])
(.cond (.t 27) (.seq (.reg [oq 4 (.mv (ci 3))])
.ret) .skip))
(.seq (.seq (.drw [mt 28 0,
om 29 1 (.nilchk (.t 28)),
om 30 3 (.faddr 0 (.t 29)),
om 31 7 (.faddr 0 (.t 30)),
om 32 15 (ld 31),
om 33 31 (bi .sub (.t 32) (ci 1)),
oq 34 (.faddr 1 (.t 3)),
om 35 64 (ld 34),
⟨(some 36),(.a (.bslice 3 1 1 [(.int .i64 (.ofNat 0))] [(0,(.t 35))])),none,192⟩,
oc 37 180 [(ci 0),(.t 33),(.t 36)] 511,
om 5 1023 (.mv (.t 37))])
(.seq (.reg [mt 38 5,
oq 39 (bi .neq (.t 38) (ci 0))])
(.cond (.t 39) (.seq (.reg [mt 40 5,
mt 4 40])
.ret) .skip)))
(.seq (.drw [mt 41 0,
om 42 1 (.nilchk (.t 41)),
om 43 3 (.faddr 0 (.t 42)),
om 44 7 (.faddr 2 (.t 43)),
om 45 15 (ld 44),
om 46 31 (.lenSl (.t 45)),
om 47 63 (bi .sub (.t 46) (ci 1)),
oq 48 (.faddr 2 (.t 3)),
om 49 128 (ld 48),
⟨(some 50),(.a (.bslice 3 1 1 [(.int .i64 (.ofNat 0))] [(0,(.t 49))])),none,384⟩,
oc 51 180 [(ci 0),(.t 47),(.t 50)] 1023,
om 4 2047 (.mv (.t 51))])
.ret))))⟩
theorem row174 : Row Go.Proofs.Try.prog (174, a174) := ⟨Go.Proofs.Try.f174, Go.Proofs.Try.func174, by kernel_rfl⟩
noncomputable def a175 : AFn :=
⟨39,[(.t 4)],(.seq (.reg [⟨(some 3),(.a (.box 64 (.t 1))),none,0⟩,
oq 4 (.mv (ci 0))])
(.seq (.seq (.drw [oq 5 (.faddr 1 (.t 3)),
om 6 1 (ld 5),
om 7 3 (bi .neq (.t 6) (ci 0)),
om 8 7 (.mv (.t 7)),
og 9 8 false 15 (.faddr 2 (.t 3)),
og 10 8 false 31 (ld 9),
og 11 8 false 63 (bi .neq (.t 10) (ci 0)),
om 12 127 (.pick (.t 8) (.c (.bool true)) (.t 11)),
om 13 255 (.mv (.t 12)),
og 14 13 false 511 (.faddr 3 (.t 3)),
og 15 13 false 1023 (ld 14),
og 16 13 false 2047 (.lenSl (.t 15)),
og 17 13 false 4095 (bi .gtr (.t 16) (ci 0)),
om 18 8191 (.pick (.t 13) (.c (.bool true)) (.t 17)),
om 19 16383 (.mv (.t 18)),
og 20 19 false 32767 (.faddr 4 (.t 3)),
og 21 19 false 65535 (ld 20),
og 22 19 false 131071 (.lenSl (.t 21)),
og 23 19 false 262143 (bi .gtr (.t 22) (ci 0)),
om 24 524287 (.pick (.t 19) (.c (.bool true)) (.t 23)),
om 25 1048575 (.mv (.t 24)),
og 26 25 false 2097151 (.faddr 5 (.t 3)),
og 27 25 false 4194303 (ld 26),
og 28 25 false 8388607 (.lenSl (.t 27)),
og 29 25 false 2097151 (.mv (.t 0)),
og 30 25 false 18874367 (.nilchk (.t 29)),
og 31 25 false 52428799 (.faddr 0 (.t 30)),
og 32 25 false 119537663 (.faddr 0 (.t 31)),
og 33 25 false 253755391 (ld 32),
og 34 25 false 536870911 (bi .neq (.t 28) (.t 33)),
om 35 1073741823 (.pick (.t 25) (.c (.bool true)) (.t 34))])
(.cond (.t 35) (.seq (.reg [oq 4 (.mv (ci 3))])
.ret) .skip))
(.seq (.reg [oq 36 (.faddr 5 (.t 3)),
oq 37 (ld 36),
oc 38 180 [(.c (.int .i64 (.negSucc 999999))),(ci 1000000),(.t 37)] 0,
mt 4 38])
.ret)))⟩
theorem row175 : Row Go.Proofs.Try.prog (175, a175) := ⟨Go.Proofs.Try.f175, Go.Proofs.Try.func175, by kernel_rfl⟩
noncomputable def a176 : AFn :=
⟨9,[(.t 4)],(.seq (.reg [oq 4 (.mv (.c (.bool false)))])
(.seq (.reg [mt 5 0,
mt 6 1,
oc 7 181 [(.t 5),(.t 6)] 0,
oq 8 (bi .geq (.t 7) (ci 0)),
mt 4 8])
.ret))⟩
theorem row176 : Row Go.Proofs.Try.prog (176, a176) := ⟨Go.Proofs.Try.f176, Go.Proofs.Try.func176, by kernel_rfl⟩
noncomputable def a177 : AFn :=
⟨21,[(.t 2)],(.seq (.reg [oq 2 (.mv (.c (.bool false)))])
(.seq (.seq (.reg [mt 4 0,
oq 5 (.lenSl (.t 4)),
oq 6 (bi .sub (.t 5) (ci 1)),
mt 3 6])
(.block 0 (.loop (.seq (.seq (.reg [mt 7 3,
oq 8 (bi .gtr (.t 7) (ci 0))])
(.cond (.t 8) .skip (.exit 0)))
(.seq (.block 1 (.seq (.drw [mt 11 0,
mt 12 3,
om 13 3 (.iaddr (.slice 1) (.t 11) (.t 12)),
om 14 7 (ld 13),
mt 15 0,
mt 16 3,
om 17 32 (bi .sub (.t 16) (ci 1)),
om 18 112 (.iaddr (.slice 1) (.t 15) (.t 17)),
om 19 240 (ld 18),
oc 20 182 [(.t 14),(.t 19)] 511])
(.cond (.t 20) (.seq (.reg [oq 2 (.mv (.c (.bool false)))])
.ret) .skip)))
(.reg [mt 9 3,
oq 10 (bi .sub (.t 9) (ci 1)),
mt 3 10]))))))
(.seq (.reg [oq 2 (.mv (.c (.bool true)))])
.ret)))⟩
theorem row177 : Row Go.Proofs.Try.prog (177, a177) := ⟨Go.Proofs.Try.f177, Go.Proofs.Try.func177, by kernel_rfl⟩
noncomputable def a180 : AFn :=
⟨10,[(.t 6)],(.seq (.reg [⟨(some 3),(.a (.box 3 (.t 0))),none,0⟩,
⟨(some 4),(.a (.box 3 (.t 1))),none,0⟩,
oq 6 (.mv (ci 0))])
(.seq (.seq (.reg [mt 7 2,
oq 8 (.mkFunc 184 [] [(.t 3),(.t 4)]),
oc 9 183 [(.t 7),(.t 8)] 0])
(.cond (.t 9) (.seq (.reg [oq 6 (.mv (ci 2))])
.ret) .skip))
(.seq (.reg [oq 6 (.mv (ci 0))])
.ret)))⟩
theorem row180 : Row Go.Proofs.Try.prog (180, a180) := ⟨Go.Proofs.Try.f180, Go.Proofs.Try.func180, by kernel_rfl⟩
noncomputable def a181 : AFn :=
⟨19,[(.t 4)],(.seq (.reg [oq 4 (.mv (ci 0))])
(.seq (.seq (.reg [mt 6 0,
oq 7 (.lenSl (.t 6)),
oq 8 (.mv (ci 0))])
(.block 0 (.loop (.seq (.reg [oq 9 (bi .lss (.t 8) (.t 7))])
(.seq (.cond (.t 9) .skip (.exit 0))
(.seq (.block 1 (.seq (.reg [mt 10 8,
mt 5 10])
(.seq (.reg [mt 11 1,
mt 12 0,
mt 13 5,
oq 14 (.iaddr (.slice 1) (.t 12) (.t 13)),
oq 15 (ld 14),
oq 16 (bi .eql (.t 11) (.t 15))])
(.cond (.t 16) (.seq (.reg [mt 17 5,
mt 4 17])
.ret) .skip))))
(.reg [oq 18 (bi .add (.t 8) (ci 1)),
mt 8 18])))))))
(.seq (.reg [oq 4 (.mv (.c (.int .i64 (.negSucc 0))))])
.ret)))⟩
theorem row181 : Row Go.Proofs.Try.prog (181, a181) := ⟨Go.Proofs.Try.f181, Go.Proofs.Try.func181, by kernel_rfl⟩
noncomputable def a182 : AFn :=
⟨17,[(.t 4)],(.seq (.reg [oq 4 (.mv (.c (.bool false)))])
(.seq (.reg [mt 5 0,
oc 6 185 [(.t 5)] 0,
mt 7 6,
og 8 7 true 0 (.mv (.t 1)),
⟨(some 9),(.x (.call (.c (.fn 185 [] [])) [(.t 8)])),(some (7,true)),0⟩,
og 10 7 true 0 (.un .not (.t 9)),
oq 11 (.pick (.t 7) (.t 10) (.c (.bool false))),
mt 12 11,
og 13 12 false 0 (.mv (.t 0)),
og 14 12 false 0 (.mv (.t 1)),
og 15 12 false 0 (bi .lss (.t 13) (.t 14)),
oq 16 (.pick (.t 12) (.c (.bool true)) (.t 15)),
mt 4 16])
.ret))⟩
theorem row182 : Row Go.Proofs.Try.prog (182, a182) := ⟨Go.Proofs.Try.f182, Go.Proofs.Try.func182, by kernel_rfl⟩
noncomputable def a183 : AFn :=
⟨9,[(.t 4)],(.seq (.reg [oq 4 (.mv (.c (.bool false)))])
(.seq (.reg [mt 5 0,
mt 6 1,
oc 7 186 [(.t 5),(.t 6)] 0,
oq 8 (bi .geq (.t 7) (ci 0)),
mt 4 8])
.ret))⟩
theorem row183 : Row Go.Proofs.Try.prog (183, a183) := ⟨Go.Proofs.Try.f183, Go.Proofs.Try.func183, by kernel_rfl⟩
noncomputable def a184 : AFn :=
⟨13,[(.t 4)],(.seq (.reg [oq 4 (.mv (.c (.bool false)))])
(.seq (.reg [mt 5 0,
oq 6 (ld 1),
oq 7 (bi .lss (.t 5) (.t 6)),
mt 8 7,
og 9 8 false 0 (.mv (.t 0)),
og 10 8 false 0 (ld 2),
og 11 8 false 0 (bi .gtr (.t 9) (.t 10)),
oq 12 (.pick (.t 8) (.c (.bool true)) (.t 11)),
mt 4 12])
.ret))⟩
theorem row184 : Row Go.Proofs.Try.prog (184, a184) := ⟨Go.Proofs.Try.f184, Go.Proofs.Try.func184, by kernel_rfl⟩
noncomputable def a185 : AFn :=
⟨6,[(.t 2)],(.seq (.reg [oq 2 (.mv (.c (.bool false)))])
(.seq (.reg [mt 3 0,
mt 4 0,
oq 5 (bi .neq (.t 3) (.t 4)),
mt 2 5])
.ret))⟩
theorem row185 : Row Go.Proofs.Try.prog (185, a185) := ⟨Go.Proofs.Try.f185, Go.Proofs.Try.func185, by kernel_rfl⟩
noncomputable def a186 : AFn :=
⟨19,[(.t 4)],(.seq (.reg [oq 4 (.mv (ci 0))])
(.seq (.seq (.reg [mt 6 0,
oq 7 (.lenSl (.t 6)),
oq 8 (.mv (ci 0))])
(.block 0 (.loop (.seq (.reg [oq 9 (bi .lss (.t 8) (.t 7))])
(.seq (.cond (.t 9) .skip (.exit 0))
(.seq (.block 1 (.seq (.reg [mt 10 8,
mt 5 10])
(.seq (.reg [mt 11 1,
mt 12 0,
mt 13 5,
oq 14 (.iaddr (.slice 1) (.t 12) (.t 13)),
oq 15 (ld 14),
⟨(some 16),(.x (.call (.t 11) [(.t 15)])),none,0⟩])
(.cond (.t 16) (.seq (.reg [mt 17 5,
mt 4 17])
.ret) .skip))))
(.reg [oq 18 (bi .add (.t 8) (ci 1)),
mt 8 18])))))))
(.seq (.reg [oq 4 (.mv (.c (.int .i64 (.negSucc 0))))])
.ret)))⟩
theorem row186 : Row Go.Proofs.Try.prog (186, a186) := ⟨Go.Proofs.Try.f186, Go.Proofs.Try.func186, by kernel_rfl⟩
noncomputable def a203 : AFn :=
⟨15,[(.t 6)],(.seq (.reg [⟨(some 3),(.a (.box 119 (.t 0))),none,0⟩,
⟨(some 4),(.a (.box 64 (.t 1))),none,0⟩,
oq 6 (.mv (ci 0))])
(.seq (.reg [oq 7 (.faddr 1 (.t 3)),
oq 8 (ld 7),
oq 9 (.faddr 2 (.t 4)),
oq 10 (ld 9),
oq 11 (.iaddr (.slice 1) (.t 8) (.t 10)),
oq 12 (ld 11),
mt 13 2,
oc 14 205 [(.t 12),(.t 13)] 0,
mt 6 14])
.ret))⟩
theorem row203 : Row Go.Proofs.Try.prog (203, a203) := ⟨Go.Proofs.Try.f203, Go.Proofs.Try.func203, by kernel_rfl⟩
noncomputable def a204 : AFn :=
⟨8,[(.t 4)],(.seq (.reg [⟨(some 2),(.a (.box 119 (.t 0))),none,0⟩,
⟨(some 3),(.a (.box 64 (.t 1))),none,0⟩,
oq 4 (.mv (ci 0))])
(.seq (.reg [oq 5 (.faddr 0 (.t 2)),
oq 6 (ld 5),
oq 7 (bi .shl (ci 1) (.t 6)),
mt 4 7])
.ret))⟩
theorem row204 : Row Go.Proofs.Try.prog (204, a204) := ⟨Go.Proofs.Try.f204, Go.Proofs.Try.func204, by kernel_rfl⟩
noncomputable def a205 : AFn :=
⟨22,[(.t 4)],(.seq (.reg [oq 4 (.mv (ci 0))])
(.seq (.seq (.reg [mt 7 0,
oq 8 (.lenSl (.t 7)),
oq 9 (.mv (ci 0))])
(.block 0 (.loop (.seq (.reg [oq 10 (bi .lss (.t 9) (.t 8))])
(.seq (.cond (.t 10) .skip (.exit 0))
(.seq (.block 1 (.seq (.reg [mt 11 9,
oq 12 (.iaddr (.slice 1) (.t 7) (.t 9)),
oq 13 (ld 12),
mt 5 11,
mt 6 13])
(.seq (.seq (.reg [mt 14 1,
mt 15 6,
oq 16 (bi .lss (.t 14) (.t 15))])
(.cond (.t 16) (.seq (.reg [mt 17 5,
mt 4 17])
.ret) .skip))
(.reg [mt 18 1,
mt 19 6,
oq 20 (bi .sub (.t 18) (.t 19)),
mt 1 20]))))
(.reg [oq 21 (bi .add (.t 9) (ci 1)),
mt 9 21])))))))
(.seq (.reg [oq 4 (.mv (ci 0))])
.ret)))⟩
theorem row205 : Row Go.Proofs.Try.prog (205, a205) := ⟨Go.Proofs.Try.f205, Go.Proofs.Try.func205, by kernel_rfl⟩
noncomputable def a206 : AFn :=
⟨12,[(.t 6)],(.seq (.reg [⟨(some 4),(.a (.box 64 (.t 1))),none,0⟩,
oq 6 (.mv (ci 0))])
(.seq (.reg [mt 7 0,
oq 8 (.faddr 2 (.t 4)),
oq 9 (ld 8),
oq 10 (.iaddr (.slice 1) (.t 7) (.t 9)),
oq 11 (ld 10),
mt 6 11])
.ret))⟩
theorem row206 : Row Go.Proofs.Try.prog (206, a206) := ⟨Go.Proofs.Try.f206, Go.Proofs.Try.func206, by kernel_rfl⟩
noncomputable def a207 : AFn :=
⟨5,[(.t 4)],(.seq (.reg [⟨(some 3),(.a (.box 64 (.t 1))),none,0⟩,
oq 4 (.mv (ci 0))])
(.seq (.reg [oq 4 (.mv (ci 1))])
.ret))⟩
theorem row207 : Row Go.Proofs.Try.prog (207, a207) := ⟨Go.Proofs.Try.f207, Go.Proofs.Try.func207, by kernel_rfl⟩
noncomputable def a209 : AFn :=
⟨11,[(.t 6)],(.seq (.reg [⟨(some 3),(.a (.box 191 (.t 0))),none,0⟩,
⟨(some 4),(.a (.box 64 (.t 1))),none,0⟩,
oq 6 (.mv (ci 0))])
(.seq (.reg [oq 7 (.faddr 4 (.t 4)),
oq 8 (ld 7),
mt 9 2,
oc 10 205 [(.t 8),(.t 9)] 0,
mt 6 10])
.ret))⟩
theorem row209 : Row Go.Proofs.Try.prog (209, a209) := ⟨Go.Proofs.Try.f209, Go.Proofs.Try.func209, by kernel_rfl⟩
end Go.Ev.Gl
