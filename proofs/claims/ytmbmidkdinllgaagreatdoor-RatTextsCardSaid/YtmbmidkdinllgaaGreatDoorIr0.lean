/- Functions of the program as data of the evaluator, written by program; each is shown to be the compiler's result on the loaded function. -/
import Derived.Test.YtmbmidkdinllgaaGreatDoorProg
import Derived.Test.YtmbmidkdinllgaaGreatDoorEv8
import Derived.KernelRfl
namespace Go.Ev.Gl
set_option maxRecDepth 100000
noncomputable def a3 : AFn :=
⟨82,[(.t 4)],(.seq (.reg [⟨(some 2),(.a (.box 25 (.t 0))),none,0⟩,
oq 4 (.mv (.c (.bool false)))])
(.seq (.seq (.reg [oq 13 (.ld true 3 (.t 2)),
oc 14 4 [(.t 13)] 0,
mt 15 14,
og 16 15 false 0 (.mv (.t 1)),
og 17 15 false 0 (.lenStr (.t 16)),
og 18 15 false 0 (bi .gtr (.t 17) (ci 500)),
og 19 15 false 0 (.mv (.t 18)),
og 20 19 true 0 (.mv (.t 1)),
og 21 19 true 0 (.lenStr (.t 20)),
og 22 19 true 0 (bi .leq (.t 21) (ci 9210)),
og 23 15 false 0 (.pick (.t 19) (.t 22) (.c (.bool false))),
oq 24 (.pick (.t 15) (.c (.bool true)) (.t 23)),
mt 25 24,
og 26 25 false 0 (.mv (.t 1)),
og 27 25 false 0 (.lenStr (.t 26)),
og 28 25 false 0 (bi .gtr (.t 27) (ci 9230)),
og 29 25 false 0 (.mv (.t 28)),
og 30 29 true 0 (.mv (.t 1)),
og 31 29 true 0 (.lenStr (.t 30)),
og 32 29 true 0 (bi .leq (.t 31) (ci 19990)),
og 33 25 false 0 (.pick (.t 29) (.t 32) (.c (.bool false))),
oq 34 (.pick (.t 25) (.c (.bool true)) (.t 33)),
mt 35 34,
og 36 35 false 0 (.mv (.t 1)),
og 37 35 false 0 (.lenStr (.t 36)),
og 38 35 false 0 (bi .gtr (.t 37) (ci 20010)),
oq 39 (.pick (.t 35) (.c (.bool true)) (.t 38))])
(.cond (.t 39) (.seq (.reg [oc 40 5 [] 0,
mt 4 40])
.ret) .skip))
(.seq (.reg [oq 42 (.ld true 3 (.t 2)),
oc 43 6 [(.t 42)] 0,
mt 41 43,
oq 44 (.extract (.t 41) 0),
oq 45 (.extract (.t 41) 1),
mt 5 44,
mt 6 45])
(.seq (.reg [oq 47 (.ld true 3 (.t 2)),
oc 48 7 [(.t 47)] 0,
mt 46 48,
oq 49 (.extract (.t 46) 0),
oq 50 (.extract (.t 46) 1),
mt 7 49,
mt 8 50])
(.seq (.reg [mt 52 1,
oc 53 8 [(.t 52)] 0,
mt 51 53,
oq 54 (.extract (.t 51) 0),
oq 55 (.extract (.t 51) 1),
⟨(some 9),(.a (.alloc 25 [(.bool false),.nilsl,.nilsl])),none,0⟩,
⟨(some 10),(.a (.alloc 32 [(.int .i64 (.ofNat 0)),(.int .i64 (.ofNat 0))])),none,0⟩,
⟨none,(.x (.st 3 (.t 9) (.t 54))),none,0⟩,
⟨none,(.x (.st 2 (.t 10) (.t 55))),none,0⟩])
(.seq (.reg [mt 57 1,
oc 58 9 [(.t 57)] 0,
mt 56 58,
oq 59 (.extract (.t 56) 0),
oq 60 (.extract (.t 56) 1),
⟨(some 11),(.a (.alloc 25 [(.bool false),.nilsl,.nilsl])),none,0⟩,
⟨(some 12),(.a (.alloc 32 [(.int .i64 (.ofNat 0)),(.int .i64 (.ofNat 0))])),none,0⟩,
⟨none,(.x (.st 3 (.t 11) (.t 59))),none,0⟩,
⟨none,(.x (.st 2 (.t 12) (.t 60))),none,0⟩])
(.seq (.reg [mt 61 5,
mt 62 7,
oq 63 (.bin .eql (.p .str) (.t 61) (.t 62)),
mt 64 63,
og 65 64 true 0 (.mv (.t 6)),
og 66 64 true 0 (.mv (.t 8)),
og 67 64 true 0 (bi .eql (.t 65) (.t 66)),
oq 68 (.pick (.t 64) (.t 67) (.c (.bool false))),
mt 69 68,
og 70 69 true 0 (.ld true 3 (.t 9)),
og 71 69 true 0 (.ld true 3 (.t 11)),
⟨(some 72),(.x (.call (.c (.fn 10 [] [])) [(.t 70),(.t 71)])),(some (69,true)),0⟩,
oq 73 (.pick (.t 69) (.t 72) (.c (.bool false))),
mt 74 73,
og 75 74 true 0 (.ld true 2 (.t 10)),
og 76 74 true 0 (.ld true 2 (.t 12)),
og 77 74 true 0 (.bin .eql (.struct [(0,.int),(1,.int)]) (.t 75) (.t 76)),
oq 78 (.pick (.t 74) (.t 77) (.c (.bool false))),
mt 79 78,
⟨(some 80),(.x (.call (.c (.fn 5 [] [])) [])),(some (79,true)),0⟩,
oq 81 (.pick (.t 79) (.t 80) (.c (.bool false))),
mt 4 81])
.ret)))))))⟩
theorem row3 : Row Go.Proofs.Tryz.prog (3, a3) := ⟨Go.Proofs.Tryz.f3, Go.Proofs.Tryz.func3, by kernel_rfl⟩
noncomputable def a4 : AFn :=
⟨37,[(.t 2)],(.seq (.reg [⟨(some 1),(.a (.box 25 (.t 0))),none,0⟩,
oq 2 (.mv (.c (.bool false)))])
(.seq (.reg [oq 3 (.faddr 1 (.t 1)),
oq 4 (ld 3),
oq 5 (.lenSl (.t 4)),
oq 6 (bi .gtr (.t 5) (ci 30)),
mt 7 6,
og 8 7 true 0 (.faddr 1 (.t 1)),
og 9 7 true 0 (ld 8),
og 10 7 true 0 (.lenSl (.t 9)),
og 11 7 true 0 (bi .leq (.t 10) (ci 1024)),
oq 12 (.pick (.t 7) (.t 11) (.c (.bool false))),
mt 13 12,
og 14 13 false 0 (.faddr 2 (.t 1)),
og 15 13 false 0 (ld 14),
og 16 13 false 0 (.lenSl (.t 15)),
og 17 13 false 0 (bi .gtr (.t 16) (ci 30)),
og 18 13 false 0 (.mv (.t 17)),
og 19 18 true 0 (.faddr 2 (.t 1)),
og 20 18 true 0 (ld 19),
og 21 18 true 0 (.lenSl (.t 20)),
og 22 18 true 0 (bi .leq (.t 21) (ci 1024)),
og 23 13 false 0 (.pick (.t 18) (.t 22) (.c (.bool false))),
oq 24 (.pick (.t 13) (.c (.bool true)) (.t 23)),
mt 25 24,
og 26 25 false 0 (.faddr 1 (.t 1)),
og 27 25 false 0 (ld 26),
og 28 25 false 0 (.lenSl (.t 27)),
og 29 25 false 0 (bi .gtr (.t 28) (ci 1100)),
oq 30 (.pick (.t 25) (.c (.bool true)) (.t 29)),
mt 31 30,
og 32 31 false 0 (.faddr 2 (.t 1)),
og 33 31 false 0 (ld 32),
og 34 31 false 0 (.lenSl (.t 33)),
og 35 31 false 0 (bi .gtr (.t 34) (ci 1100)),
oq 36 (.pick (.t 31) (.c (.bool true)) (.t 35)),
mt 2 36])
.ret))⟩
theorem row4 : Row Go.Proofs.Tryz.prog (4, a4) := ⟨Go.Proofs.Tryz.f4, Go.Proofs.Tryz.func4, by kernel_rfl⟩
noncomputable def a6 : AFn :=
⟨43,[(.t 2),(.t 3)],(.seq (.reg [⟨(some 1),(.a (.box 25 (.t 0))),none,0⟩,
oq 2 (.mv (.c (.str []))),
oq 3 (.mv (ci 0))])
(.seq (.seq (.reg [oq 8 (.ld true 3 (.t 1)),
oc 9 17 [(.t 8)] 0,
mt 4 9])
(.seq (.reg [mt 10 4,
oq 11 (bi .neq (.t 10) (ci 0))])
(.cond (.t 11) (.seq (.reg [mt 12 4,
oq 2 (.mv (.c (.str []))),
mt 3 12])
.ret) .skip)))
(.seq (.reg [oq 14 (.faddr 1 (.t 1)),
oq 15 (ld 14),
oc 16 18 [(.t 15)] 0,
mt 13 16,
oq 17 (.extract (.t 13) 0),
oq 18 (.extract (.t 13) 1),
mt 5 17,
mt 6 18])
(.seq (.seq (.reg [mt 19 6,
oq 20 (bi .neq (.t 19) (ci 0))])
(.cond (.t 20) (.seq (.reg [mt 21 6,
oq 2 (.mv (.c (.str []))),
mt 3 21])
.ret) .skip))
(.seq (.seq (.reg [oq 22 (.faddr 0 (.t 1)),
oq 23 (ld 22)])
(.cond (.t 23) (.reg [mt 24 5,
oq 25 (.bin .add (.p .str) (.c (.str [45])) (.t 24)),
mt 5 25]) .skip))
(.seq (.seq (.reg [oq 26 (.faddr 2 (.t 1)),
oq 27 (ld 26),
oc 28 19 [(.t 27)] 0])
(.cond (.t 28) (.seq (.reg [mt 29 5,
mt 2 29,
oq 3 (.mv (ci 0))])
.ret) .skip))
(.seq (.reg [oq 31 (.faddr 2 (.t 1)),
oq 32 (ld 31),
oc 33 18 [(.t 32)] 0,
mt 30 33,
oq 34 (.extract (.t 30) 0),
oq 35 (.extract (.t 30) 1),
mt 7 34,
mt 6 35])
(.seq (.seq (.reg [mt 36 6,
oq 37 (bi .neq (.t 36) (ci 0))])
(.cond (.t 37) (.seq (.reg [mt 38 6,
oq 2 (.mv (.c (.str []))),
mt 3 38])
.ret) .skip))
(.seq (.reg [mt 39 5,
oq 40 (.bin .add (.p .str) (.t 39) (.c (.str [47]))),
mt 41 7,
oq 42 (.bin .add (.p .str) (.t 40) (.t 41)),
mt 2 42,
oq 3 (.mv (ci 0))])
.ret)))))))))⟩
theorem row6 : Row Go.Proofs.Tryz.prog (6, a6) := ⟨Go.Proofs.Tryz.f6, Go.Proofs.Tryz.func6, by kernel_rfl⟩
noncomputable def a7 : AFn :=
⟨40,[(.t 2),(.t 3)],(.seq (.reg [⟨(some 1),(.a (.box 25 (.t 0))),none,0⟩,
oq 2 (.mv (.c (.str []))),
oq 3 (.mv (ci 0))])
(.seq (.seq (.reg [oq 9 (.ld true 3 (.t 1)),
oc 10 20 [(.t 9)] 0,
mt 4 10])
(.seq (.reg [mt 11 4,
oq 12 (bi .neq (.t 11) (ci 0))])
(.cond (.t 12) (.seq (.reg [mt 13 4,
oq 2 (.mv (.c (.str []))),
mt 3 13])
.ret) .skip)))
(.seq (.reg [oq 15 (.faddr 1 (.t 1)),
oq 16 (ld 15),
oc 17 21 [(.t 16)] 0,
mt 14 17,
oq 18 (.extract (.t 14) 0),
oq 19 (.extract (.t 14) 1),
mt 5 18,
mt 6 19])
(.seq (.seq (.reg [oq 20 (.faddr 0 (.t 1)),
oq 21 (ld 20)])
(.cond (.t 21) (.reg [mt 22 5,
oq 23 (.bin .add (.p .str) (.c (.str [45])) (.t 22)),
mt 5 23]) .skip))
(.seq (.seq (.reg [oq 24 (.faddr 2 (.t 1)),
oq 25 (ld 24),
⟨(some 26),(.a (.bslice 47 1 1 [(.int .u32 (.ofNat 0))] [(0,(.c (.int .u32 (.ofNat 1))))])),none,0⟩,
oc 27 22 [(.t 25),(.t 26)] 0,
oq 28 (bi .eql (.t 27) (ci 0))])
(.cond (.t 28) (.seq (.reg [mt 29 5,
mt 2 29,
oq 3 (.mv (ci 0))])
.ret) .skip))
(.seq (.reg [oq 31 (.faddr 2 (.t 1)),
oq 32 (ld 31),
oc 33 21 [(.t 32)] 0,
mt 30 33,
oq 34 (.extract (.t 30) 0),
oq 35 (.extract (.t 30) 1),
mt 7 34,
mt 8 35])
(.seq (.reg [mt 36 5,
oq 37 (.bin .add (.p .str) (.t 36) (.c (.str [47]))),
mt 38 7,
oq 39 (.bin .add (.p .str) (.t 37) (.t 38)),
mt 2 39,
oq 3 (.mv (ci 0))])
.ret)))))))⟩
theorem row7 : Row Go.Proofs.Tryz.prog (7, a7) := ⟨Go.Proofs.Tryz.f7, Go.Proofs.Tryz.func7, by kernel_rfl⟩
noncomputable def a8 : AFn :=
⟨87,[(.cell 2 true 3),(.cell 3 true 2)],(.seq (.reg [⟨(some 2),(.a (.alloc 25 [(.bool false),.nilsl,.nilsl])),none,0⟩,
⟨(some 3),(.a (.alloc 32 [(.int .i64 (.ofNat 0)),(.int .i64 (.ofNat 0))])),none,0⟩])
(.seq (.seq (.reg [mt 13 0,
oq 14 (.lenStr (.t 13)),
oq 15 (bi .gtr (.t 14) (ci 20000))])
(.cond (.t 15) (.seq (.reg [oq 16 (.build [(.bool false),.nilsl,.nilsl] []),
oq 17 (.build [(.int .i64 (.ofNat 0)),(.int .i64 (.ofNat 0))] [(0,1,(ci 4)),(1,1,(ci 20000))]),
⟨none,(.x (.st 3 (.t 2) (.t 16))),none,0⟩,
⟨none,(.x (.st 2 (.t 3) (.t 17))),none,0⟩])
.ret) .skip))
(.seq (.seq (.reg [mt 18 0,
oc 19 23 [(.t 18)] 0,
⟨(some 4),(.a (.alloc 32 [(.int .i64 (.ofNat 0)),(.int .i64 (.ofNat 0))])),none,0⟩,
⟨none,(.x (.st 2 (.t 4) (.t 19))),none,0⟩])
(.seq (.reg [oq 20 (.faddr 0 (.t 4)),
oq 21 (ld 20),
oq 22 (bi .neq (.t 21) (ci 0))])
(.cond (.t 22) (.seq (.drw [oq 23 (.build [(.bool false),.nilsl,.nilsl] []),
oq 24 (.ld true 2 (.t 4)),
⟨none,(.x (.st 3 (.t 2) (.t 23))),none,1⟩,
⟨none,(.x (.st 2 (.t 3) (.t 24))),none,7⟩])
.ret) .skip)))
(.seq (.reg [mt 26 0,
oc 27 24 [(.t 26),(.c (.str [47]))] 0,
mt 25 27,
oq 28 (.extract (.t 25) 0),
oq 29 (.extract (.t 25) 1),
oq 30 (.extract (.t 25) 2),
mt 5 28,
mt 6 29,
mt 7 30])
(.seq (.reg [mt 32 5,
oc 33 25 [(.t 32),(.c (.str [45]))] 0,
mt 31 33,
oq 34 (.extract (.t 31) 0),
oq 35 (.extract (.t 31) 1),
mt 8 34,
mt 9 35])
(.seq (.reg [mt 37 8,
oc 38 26 [(.t 37)] 0,
mt 36 38,
oq 39 (.extract (.t 36) 0),
oq 40 (.extract (.t 36) 1),
⟨(some 11),(.a (.alloc 32 [(.int .i64 (.ofNat 0)),(.int .i64 (.ofNat 0))])),none,0⟩,
mt 10 39,
⟨none,(.x (.st 2 (.t 11) (.t 40))),none,0⟩])
(.seq (.seq (.reg [oq 41 (.faddr 0 (.t 11)),
oq 42 (ld 41),
oq 43 (bi .neq (.t 42) (ci 0))])
(.cond (.t 43) (.seq (.reg [oq 44 (.faddr 1 (.t 11)),
oq 45 (ld 44),
mt 46 5,
oq 47 (.lenStr (.t 46)),
mt 48 8,
oq 49 (.lenStr (.t 48)),
oq 50 (bi .sub (.t 47) (.t 49)),
oq 51 (bi .add (.t 45) (.t 50)),
oq 52 (.faddr 1 (.t 11)),
⟨none,(.x (.st 1 (.t 52) (.t 51))),none,0⟩])
(.seq (.drw [oq 53 (.build [(.bool false),.nilsl,.nilsl] []),
oq 54 (.ld true 2 (.t 11)),
⟨none,(.x (.st 3 (.t 2) (.t 53))),none,1⟩,
⟨none,(.x (.st 2 (.t 3) (.t 54))),none,7⟩])
.ret)) .skip))
(.seq (.reg [oc 55 27 [] 0,
mt 12 55])
(.seq (.seq (.reg [mt 56 7])
(.cond (.t 56) (.seq (.reg [mt 58 6,
oc 59 26 [(.t 58)] 0,
mt 57 59,
oq 60 (.extract (.t 57) 0),
oq 61 (.extract (.t 57) 1),
mt 12 60,
⟨none,(.x (.st 2 (.t 11) (.t 61))),none,0⟩])
(.seq (.reg [oq 62 (.faddr 0 (.t 11)),
oq 63 (ld 62),
oq 64 (bi .neq (.t 63) (ci 0))])
(.cond (.t 64) (.seq (.reg [oq 65 (.faddr 1 (.t 11)),
oq 66 (ld 65),
mt 67 5,
oq 68 (.lenStr (.t 67)),
oq 69 (bi .add (.t 68) (ci 1)),
oq 70 (bi .add (.t 66) (.t 69)),
oq 71 (.faddr 1 (.t 11)),
⟨none,(.x (.st 1 (.t 71) (.t 70))),none,0⟩])
(.seq (.drw [oq 72 (.build [(.bool false),.nilsl,.nilsl] []),
oq 73 (.ld true 2 (.t 11)),
⟨none,(.x (.st 3 (.t 2) (.t 72))),none,1⟩,
⟨none,(.x (.st 2 (.t 3) (.t 73))),none,7⟩])
.ret)) .skip))) .skip))
(.seq (.seq (.reg [mt 74 12,
oq 75 (.lenSl (.t 74)),
oq 76 (bi .eql (.t 75) (ci 0))])
(.cond (.t 76) (.seq (.reg [oq 77 (.build [(.bool false),.nilsl,.nilsl] []),
mt 78 5,
oq 79 (.lenStr (.t 78)),
oq 80 (bi .add (.t 79) (ci 1)),
oq 81 (.build [(.int .i64 (.ofNat 0)),(.int .i64 (.ofNat 0))] [(0,1,(ci 6)),(1,1,(.t 80))]),
⟨none,(.x (.st 3 (.t 2) (.t 77))),none,0⟩,
⟨none,(.x (.st 2 (.t 3) (.t 81))),none,0⟩])
.ret) .skip))
(.seq (.reg [mt 82 9,
mt 83 10,
mt 84 12,
oc 85 28 [(.t 82),(.t 83),(.t 84)] 0,
oq 86 (.build [(.int .i64 (.ofNat 0)),(.int .i64 (.ofNat 0))] []),
⟨none,(.x (.st 3 (.t 2) (.t 85))),none,0⟩,
⟨none,(.x (.st 2 (.t 3) (.t 86))),none,0⟩])
.ret)))))))))))⟩
theorem row8 : Row Go.Proofs.Tryz.prog (8, a8) := ⟨Go.Proofs.Tryz.f8, Go.Proofs.Tryz.func8, by kernel_rfl⟩
noncomputable def a9 : AFn :=
⟨148,[(.cell 2 true 3),(.cell 3 true 2)],(.seq (.reg [⟨(some 2),(.a (.alloc 25 [(.bool false),.nilsl,.nilsl])),none,0⟩,
⟨(some 3),(.a (.alloc 32 [(.int .i64 (.ofNat 0)),(.int .i64 (.ofNat 0))])),none,0⟩])
(.seq (.seq (.reg [mt 11 0,
oq 12 (.lenStr (.t 11)),
oq 13 (bi .gtr (.t 12) (ci 20000))])
(.cond (.t 13) (.seq (.reg [oq 14 (.build [(.bool false),.nilsl,.nilsl] []),
oq 15 (.build [(.int .i64 (.ofNat 0)),(.int .i64 (.ofNat 0))] [(0,1,(ci 4)),(1,1,(ci 20000))]),
⟨none,(.x (.st 3 (.t 2) (.t 14))),none,0⟩,
⟨none,(.x (.st 2 (.t 3) (.t 15))),none,0⟩])
.ret) .skip))
(.seq (.seq (.reg [oq 4 (.mv (ci 0))])
(.block 0 (.loop (.seq (.seq (.reg [mt 16 4,
mt 17 0,
oq 18 (.lenStr (.t 17)),
oq 19 (bi .lss (.t 16) (.t 18))])
(.cond (.t 19) .skip (.exit 0)))
(.seq (.block 1 (.seq (.reg [mt 22 0,
mt 23 4,
oq 24 (.idxStr (.t 22) (.t 23)),
oq 25 (bi .lss (.t 24) (.c (.int .u8 (.ofNat 48)))),
mt 26 25,
og 27 26 false 0 (.mv (.t 0)),
og 28 26 false 0 (.mv (.t 4)),
og 29 26 false 0 (.idxStr (.t 27) (.t 28)),
og 30 26 false 0 (bi .gtr (.t 29) (.c (.int .u8 (.ofNat 57)))),
oq 31 (.pick (.t 26) (.c (.bool true)) (.t 30)),
mt 32 31,
og 33 32 true 0 (.mv (.t 0)),
og 34 32 true 0 (.mv (.t 4)),
og 35 32 true 0 (.idxStr (.t 33) (.t 34)),
og 36 32 true 0 (bi .neq (.t 35) (.c (.int .u8 (.ofNat 45)))),
oq 37 (.pick (.t 32) (.t 36) (.c (.bool false))),
mt 38 37,
og 39 38 true 0 (.mv (.t 0)),
og 40 38 true 0 (.mv (.t 4)),
og 41 38 true 0 (.idxStr (.t 39) (.t 40)),
og 42 38 true 0 (bi .neq (.t 41) (.c (.int .u8 (.ofNat 47)))),
oq 43 (.pick (.t 38) (.t 42) (.c (.bool false)))])
(.cond (.t 43) (.seq (.reg [oq 44 (.build [(.bool false),.nilsl,.nilsl] []),
mt 45 4,
oq 46 (.build [(.int .i64 (.ofNat 0)),(.int .i64 (.ofNat 0))] [(0,1,(ci 11)),(1,1,(.t 45))]),
⟨none,(.x (.st 3 (.t 2) (.t 44))),none,0⟩,
⟨none,(.x (.st 2 (.t 3) (.t 46))),none,0⟩])
.ret) .skip)))
(.reg [mt 20 4,
oq 21 (bi .add (.t 20) (ci 1)),
mt 4 21]))))))
(.seq (.reg [mt 47 0,
oq 48 (.lenStr (.t 47)),
mt 5 48])
(.seq (.seq (.reg [oq 6 (.mv (ci 0))])
(.block 2 (.loop (.seq (.seq (.reg [mt 49 6,
mt 50 0,
oq 51 (.lenStr (.t 50)),
oq 52 (bi .lss (.t 49) (.t 51))])
(.cond (.t 52) .skip (.exit 2)))
(.seq (.block 3 (.seq (.seq (.reg [mt 55 0,
mt 56 6,
oq 57 (.idxStr (.t 55) (.t 56)),
oq 58 (bi .eql (.t 57) (.c (.int .u8 (.ofNat 45)))),
mt 59 58,
og 60 59 true 0 (.mv (.t 6)),
og 61 59 true 0 (bi .gtr (.t 60) (ci 0)),
oq 62 (.pick (.t 59) (.t 61) (.c (.bool false))),
mt 63 62,
og 64 63 false 0 (.mv (.t 0)),
og 65 63 false 0 (.mv (.t 6)),
og 66 63 false 0 (.idxStr (.t 64) (.t 65)),
og 67 63 false 0 (bi .eql (.t 66) (.c (.int .u8 (.ofNat 47)))),
og 68 63 false 0 (.mv (.t 67)),
og 69 68 true 0 (.mv (.t 5)),
og 70 68 true 0 (.mv (.t 0)),
og 71 68 true 0 (.lenStr (.t 70)),
og 72 68 true 0 (bi .lss (.t 69) (.t 71)),
og 73 63 false 0 (.pick (.t 68) (.t 72) (.c (.bool false))),
oq 74 (.pick (.t 63) (.c (.bool true)) (.t 73))])
(.cond (.t 74) (.seq (.reg [oq 75 (.build [(.bool false),.nilsl,.nilsl] []),
mt 76 6,
oq 77 (.build [(.int .i64 (.ofNat 0)),(.int .i64 (.ofNat 0))] [(0,1,(ci 11)),(1,1,(.t 76))]),
⟨none,(.x (.st 3 (.t 2) (.t 75))),none,0⟩,
⟨none,(.x (.st 2 (.t 3) (.t 77))),none,0⟩])
.ret) .skip))
(.seq (.reg [mt 78 0,
mt 79 6,
oq 80 (.idxStr (.t 78) (.t 79)),
oq 81 (bi .eql (.t 80) (.c (.int .u8 (.ofNat 47))))])
(.cond (.t 81) (.reg [mt 82 6,
mt 5 82]) .skip))))
(.reg [mt 53 6,
oq 54 (bi .add (.t 53) (ci 1)),
mt 6 54]))))))
(.seq (.reg [oq 7 (.mv (ci 0))])
(.seq (.seq (.reg [mt 83 0,
oq 84 (.lenStr (.t 83)),
oq 85 (bi .gtr (.t 84) (ci 0)),
mt 86 85,
og 87 86 true 0 (.mv (.t 0)),
og 88 86 true 0 (.idxStr (.t 87) (ci 0)),
og 89 86 true 0 (bi .eql (.t 88) (.c (.int .u8 (.ofNat 45)))),
oq 90 (.pick (.t 86) (.t 89) (.c (.bool false)))])
(.cond (.t 90) (.reg [oq 7 (.mv (ci 1))]) .skip))
(.seq (.reg [mt 92 0,
mt 93 7,
mt 94 5,
oq 95 (.slc .str (.t 92) (some (.t 93)) (some (.t 94)) none),
oc 96 29 [(.t 95)] 0,
mt 91 96,
oq 97 (.extract (.t 91) 0),
oq 98 (.extract (.t 91) 1),
⟨(some 9),(.a (.alloc 32 [(.int .i64 (.ofNat 0)),(.int .i64 (.ofNat 0))])),none,0⟩,
mt 8 97,
⟨none,(.x (.st 2 (.t 9) (.t 98))),none,0⟩])
(.seq (.seq (.reg [oq 99 (.faddr 0 (.t 9)),
oq 100 (ld 99),
oq 101 (bi .neq (.t 100) (ci 0))])
(.cond (.t 101) (.seq (.drw [oq 102 (.build [(.bool false),.nilsl,.nilsl] []),
oq 103 (.faddr 0 (.t 9)),
om 104 2 (ld 103),
mt 105 7,
oq 106 (.faddr 1 (.t 9)),
om 107 16 (ld 106),
om 108 56 (bi .add (.t 105) (.t 107)),
om 109 126 (.build [(.int .i64 (.ofNat 0)),(.int .i64 (.ofNat 0))] [(0,1,(.t 104)),(1,1,(.t 108))]),
⟨none,(.x (.st 3 (.t 2) (.t 102))),none,1⟩,
⟨none,(.x (.st 2 (.t 3) (.t 109))),none,511⟩])
.ret) .skip))
(.seq (.reg [⟨(some 110),(.a (.bslice 47 1 1 [(.int .u32 (.ofNat 0))] [(0,(.c (.int .u32 (.ofNat 1))))])),none,0⟩,
mt 10 110])
(.seq (.seq (.reg [mt 111 5,
mt 112 0,
oq 113 (.lenStr (.t 112)),
oq 114 (bi .lss (.t 111) (.t 113))])
(.cond (.t 114) (.seq (.reg [mt 116 0,
mt 117 5,
oq 118 (bi .add (.t 117) (ci 1)),
oq 119 (.slc .str (.t 116) (some (.t 118)) none none),
oc 120 29 [(.t 119)] 0,
mt 115 120,
oq 121 (.extract (.t 115) 0),
oq 122 (.extract (.t 115) 1),
mt 10 121,
⟨none,(.x (.st 2 (.t 9) (.t 122))),none,0⟩])
(.seq (.reg [oq 123 (.faddr 0 (.t 9)),
oq 124 (ld 123),
oq 125 (bi .neq (.t 124) (ci 0))])
(.cond (.t 125) (.seq (.drw [oq 126 (.build [(.bool false),.nilsl,.nilsl] []),
oq 127 (.faddr 0 (.t 9)),
om 128 2 (ld 127),
mt 129 5,
om 130 8 (bi .add (.t 129) (ci 1)),
oq 131 (.faddr 1 (.t 9)),
om 132 32 (ld 131),
om 133 120 (bi .add (.t 130) (.t 132)),
om 134 254 (.build [(.int .i64 (.ofNat 0)),(.int .i64 (.ofNat 0))] [(0,1,(.t 128)),(1,1,(.t 133))]),
⟨none,(.x (.st 3 (.t 2) (.t 126))),none,1⟩,
⟨none,(.x (.st 2 (.t 3) (.t 134))),none,1023⟩])
.ret) .skip))) .skip))
(.seq (.seq (.reg [mt 135 10,
oq 136 (.lenSl (.t 135)),
oq 137 (bi .eql (.t 136) (ci 0))])
(.cond (.t 137) (.seq (.reg [oq 138 (.build [(.bool false),.nilsl,.nilsl] []),
mt 139 5,
oq 140 (bi .add (.t 139) (ci 1)),
oq 141 (.build [(.int .i64 (.ofNat 0)),(.int .i64 (.ofNat 0))] [(0,1,(ci 6)),(1,1,(.t 140))]),
⟨none,(.x (.st 3 (.t 2) (.t 138))),none,0⟩,
⟨none,(.x (.st 2 (.t 3) (.t 141))),none,0⟩])
.ret) .skip))
(.seq (.reg [mt 142 7,
oq 143 (bi .eql (.t 142) (ci 1)),
mt 144 8,
mt 145 10,
oc 146 30 [(.t 143),(.t 144),(.t 145)] 0,
oq 147 (.build [(.int .i64 (.ofNat 0)),(.int .i64 (.ofNat 0))] []),
⟨none,(.x (.st 3 (.t 2) (.t 146))),none,0⟩,
⟨none,(.x (.st 2 (.t 3) (.t 147))),none,0⟩])
.ret)))))))))))))⟩
theorem row9 : Row Go.Proofs.Tryz.prog (9, a9) := ⟨Go.Proofs.Tryz.f9, Go.Proofs.Tryz.func9, by kernel_rfl⟩
noncomputable def a10 : AFn :=
⟨24,[(.t 4)],(.seq (.reg [⟨(some 2),(.a (.box 25 (.t 0))),none,0⟩,
⟨(some 3),(.a (.box 25 (.t 1))),none,0⟩,
oq 4 (.mv (.c (.bool false)))])
(.seq (.reg [oq 5 (.faddr 0 (.t 2)),
oq 6 (ld 5),
oq 7 (.faddr 0 (.t 3)),
oq 8 (ld 7),
oq 9 (.bin .eql (.p .bool) (.t 6) (.t 8)),
mt 10 9,
og 11 10 true 0 (.faddr 1 (.t 2)),
og 12 10 true 0 (ld 11),
og 13 10 true 0 (.faddr 1 (.t 3)),
og 14 10 true 0 (ld 13),
⟨(some 15),(.x (.call (.c (.fn 31 [] [])) [(.t 12),(.t 14)])),(some (10,true)),0⟩,
oq 16 (.pick (.t 10) (.t 15) (.c (.bool false))),
mt 17 16,
og 18 17 true 0 (.faddr 2 (.t 2)),
og 19 17 true 0 (ld 18),
og 20 17 true 0 (.faddr 2 (.t 3)),
og 21 17 true 0 (ld 20),
⟨(some 22),(.x (.call (.c (.fn 31 [] [])) [(.t 19),(.t 21)])),(some (17,true)),0⟩,
oq 23 (.pick (.t 17) (.t 22) (.c (.bool false))),
mt 4 23])
.ret))⟩
theorem row10 : Row Go.Proofs.Tryz.prog (10, a10) := ⟨Go.Proofs.Tryz.f10, Go.Proofs.Tryz.func10, by kernel_rfl⟩
noncomputable def a17 : AFn :=
⟨28,[(.t 2)],(.seq (.reg [⟨(some 1),(.a (.box 25 (.t 0))),none,0⟩,
oq 2 (.mv (ci 0))])
(.seq (.seq (.reg [oq 4 (.faddr 1 (.t 1)),
oq 5 (ld 4),
oq 6 (.faddr 2 (.t 1)),
oq 7 (ld 6),
oc 8 48 [(.t 5),(.t 7)] 0,
mt 3 8])
(.seq (.reg [mt 9 3,
oq 10 (bi .neq (.t 9) (ci 0))])
(.cond (.t 10) (.seq (.reg [mt 11 3,
mt 2 11])
.ret) .skip)))
(.seq (.seq (.reg [oq 12 (.faddr 1 (.t 1)),
oq 13 (ld 12),
oq 14 (.lenSl (.t 13)),
oq 15 (bi .eql (.t 14) (ci 0)),
mt 16 15,
og 17 16 true 0 (.faddr 0 (.t 1)),
og 18 16 true 0 (ld 17),
oq 19 (.pick (.t 16) (.t 18) (.c (.bool false))),
mt 20 19,
og 21 20 false 0 (.faddr 1 (.t 1)),
og 22 20 false 0 (ld 21),
og 23 20 false 0 (.faddr 2 (.t 1)),
og 24 20 false 0 (ld 23),
⟨(some 25),(.x (.call (.c (.fn 49 [] [])) [(.t 22),(.t 24)])),(some (20,false)),0⟩,
og 26 20 false 0 (.un .not (.t 25)),
oq 27 (.pick (.t 20) (.c (.bool true)) (.t 26))])
(.cond (.t 27) (.seq (.reg [oq 2 (.mv (ci 3))])
.ret) .skip))
(.seq (.reg [oq 2 (.mv (ci 0))])
.ret))))⟩
theorem row17 : Row Go.Proofs.Tryz.prog (17, a17) := ⟨Go.Proofs.Tryz.f17, Go.Proofs.Tryz.func17, by kernel_rfl⟩
noncomputable def a18 : AFn :=
⟨61,[(.t 2),(.t 3)],(.seq (.reg [oq 2 (.mv (.c (.str []))),
oq 3 (.mv (ci 0))])
(.seq (.seq (.reg [mt 10 0,
oc 11 50 [(.t 10)] 0,
mt 4 11])
(.seq (.reg [mt 12 4,
oq 13 (bi .neq (.t 12) (ci 0))])
(.cond (.t 13) (.seq (.reg [mt 14 4,
oq 2 (.mv (.c (.str []))),
mt 3 14])
.ret) .skip)))
(.seq (.seq (.reg [mt 15 0,
oq 16 (.lenSl (.t 15)),
oq 17 (bi .eql (.t 16) (ci 0))])
(.cond (.t 17) (.seq (.reg [oq 2 (.mv (.c (.str [48]))),
oq 3 (.mv (ci 0))])
.ret) .skip))
(.seq (.reg [mt 18 0,
oq 19 (.lenSl (.t 18)),
oq 20 (bi .mul (ci 9) (.t 19)),
⟨(some 21),(.a (.mkSlice 5 1 1 [(.int .u8 (.ofNat 0))] (.t 20) (.t 20))),none,0⟩,
mt 5 21])
(.seq (.seq (.reg [mt 22 0,
oq 23 (.lenSl (.t 22)),
oq 24 (.mv (ci 0))])
(.block 0 (.loop (.seq (.reg [oq 25 (bi .lss (.t 24) (.t 23))])
(.seq (.cond (.t 25) .skip (.exit 0))
(.seq (.block 1 (.seq (.reg [mt 26 24,
oq 27 (.iaddr (.slice 1) (.t 22) (.t 24)),
oq 28 (ld 27),
mt 6 26,
mt 7 28])
(.seq (.reg [mt 29 5,
oq 30 (.lenSl (.t 29)),
mt 31 6,
oq 32 (bi .mul (ci 9) (.t 31)),
oq 33 (bi .sub (.t 30) (.t 32)),
oq 34 (bi .sub (.t 33) (ci 1)),
mt 8 34])
(.seq (.reg [oq 35 (.mv (ci 0))])
(.block 2 (.loop (.seq (.reg [oq 36 (bi .lss (.t 35) (ci 9))])
(.seq (.cond (.t 36) .skip (.exit 2))
(.seq (.block 3 (.seq (.reg [mt 37 35,
mt 9 37])
(.seq (.reg [mt 38 5,
mt 39 8,
mt 40 9,
oq 41 (bi .sub (.t 39) (.t 40)),
mt 42 7,
oq 43 (bi .rem (.t 42) (.c (.int .u32 (.ofNat 10)))),
oq 44 (.iaddr (.arr 10 1) (.c (.ptr 0 0)) (.t 43)),
oq 45 (ld 44),
oq 46 (.iaddr (.slice 1) (.t 38) (.t 41)),
⟨none,(.x (.st 1 (.t 46) (.t 45))),none,0⟩])
(.reg [mt 47 7,
oq 48 (bi .quo (.t 47) (.c (.int .u32 (.ofNat 10)))),
mt 7 48]))))
(.reg [oq 49 (bi .add (.t 35) (ci 1)),
mt 35 49]))))))))))
(.reg [oq 50 (bi .add (.t 24) (ci 1)),
mt 24 50])))))))
(.seq (.block 4 (.loop (.seq (.seq (.drw [mt 51 5,
om 52 1 (.iaddr (.slice 1) (.t 51) (ci 0)),
om 53 3 (ld 52),
oq 54 (.iaddr (.arr 10 1) (.c (.ptr 0 0)) (ci 0)),
om 55 8 (ld 54),
om 56 31 (bi .eql (.t 53) (.t 55))])
(.cond (.t 56) .skip (.exit 4)))
(.block 5 (.reg [mt 57 5,
oq 58 (.slc (.slice 1) (.t 57) (some (ci 1)) none none),
mt 5 58])))))
(.seq (.reg [mt 59 5,
oq 60 (.conv .bytesToStr (.t 59)),
mt 2 60,
oq 3 (.mv (ci 0))])
.ret)))))))⟩
theorem row18 : Row Go.Proofs.Tryz.prog (18, a18) := ⟨Go.Proofs.Tryz.f18, Go.Proofs.Tryz.func18, by kernel_rfl⟩
noncomputable def a19 : AFn :=
⟨12,[(.t 2)],(.seq (.reg [oq 2 (.mv (.c (.bool false)))])
(.seq (.reg [mt 3 0,
oq 4 (.lenSl (.t 3)),
oq 5 (bi .eql (.t 4) (ci 1)),
mt 6 5,
og 7 6 true 0 (.mv (.t 0)),
og 8 6 true 0 (.iaddr (.slice 1) (.t 7) (ci 0)),
og 9 6 true 0 (ld 8),
og 10 6 true 0 (bi .eql (.t 9) (.c (.int .u32 (.ofNat 1)))),
oq 11 (.pick (.t 6) (.t 10) (.c (.bool false))),
mt 2 11])
.ret))⟩
theorem row19 : Row Go.Proofs.Tryz.prog (19, a19) := ⟨Go.Proofs.Tryz.f19, Go.Proofs.Tryz.func19, by kernel_rfl⟩
noncomputable def a20 : AFn :=
⟨39,[(.t 2)],(.seq (.reg [⟨(some 1),(.a (.box 25 (.t 0))),none,0⟩,
oq 2 (.mv (ci 0))])
(.seq (.seq (.reg [oq 4 (.faddr 1 (.t 1)),
oq 5 (ld 4),
oq 6 (.faddr 2 (.t 1)),
oq 7 (ld 6),
oc 8 51 [(.t 5),(.t 7)] 0,
mt 3 8])
(.seq (.reg [mt 9 3,
oq 10 (bi .neq (.t 9) (ci 0))])
(.cond (.t 10) (.seq (.reg [mt 11 3,
mt 2 11])
.ret) .skip)))
(.seq (.seq (.reg [oq 12 (.faddr 1 (.t 1)),
oq 13 (ld 12),
oq 14 (.faddr 2 (.t 1)),
oq 15 (ld 14),
oc 16 52 [(.t 13),(.t 15)] 0,
oq 17 (.lenSl (.t 16)),
oq 18 (bi .neq (.t 17) (ci 1)),
mt 19 18,
og 20 19 false 0 (.faddr 1 (.t 1)),
og 21 19 false 0 (ld 20),
og 22 19 false 0 (.faddr 2 (.t 1)),
og 23 19 false 0 (ld 22),
⟨(some 24),(.x (.call (.c (.fn 52 [] [])) [(.t 21),(.t 23)])),(some (19,false)),0⟩,
og 25 19 false 0 (.iaddr (.slice 1) (.t 24) (ci 0)),
og 26 19 false 0 (ld 25),
og 27 19 false 0 (bi .neq (.t 26) (.c (.int .u32 (.ofNat 1)))),
oq 28 (.pick (.t 19) (.c (.bool true)) (.t 27)),
mt 29 28,
og 30 29 false 0 (.faddr 0 (.t 1)),
og 31 29 false 0 (ld 30),
og 32 29 false 0 (.mv (.t 31)),
og 33 32 true 0 (.faddr 1 (.t 1)),
og 34 32 true 0 (ld 33),
og 35 32 true 0 (.lenSl (.t 34)),
og 36 32 true 0 (bi .eql (.t 35) (ci 0)),
og 37 29 false 0 (.pick (.t 32) (.t 36) (.c (.bool false))),
oq 38 (.pick (.t 29) (.c (.bool true)) (.t 37))])
(.cond (.t 38) (.seq (.reg [oq 2 (.mv (ci 3))])
.ret) .skip))
(.seq (.reg [oq 2 (.mv (ci 0))])
.ret))))⟩
theorem row20 : Row Go.Proofs.Tryz.prog (20, a20) := ⟨Go.Proofs.Tryz.f20, Go.Proofs.Tryz.func20, by kernel_rfl⟩
noncomputable def a21 : AFn :=
⟨85,[(.t 2),(.t 3)],(.seq (.reg [oq 2 (.mv (.c (.str []))),
oq 3 (.mv (ci 0))])
(.seq (.seq (.reg [mt 11 0,
oc 12 53 [(.t 11)] 0,
mt 4 12])
(.seq (.reg [mt 13 4,
oq 14 (bi .neq (.t 13) (ci 0))])
(.cond (.t 14) (.seq (.reg [mt 15 4,
oq 2 (.mv (.c (.str []))),
mt 3 15])
.ret) .skip)))
(.seq (.reg [oq 5 (.mv (.c .nilsl))])
(.seq (.seq (.reg [oq 6 (.mv (ci 0))])
(.block 0 (.loop (.seq (.seq (.reg [mt 16 6,
mt 17 0,
oq 18 (.lenSl (.t 17)),
oq 19 (bi .lss (.t 16) (.t 18))])
(.cond (.t 19) .skip (.exit 0)))
(.seq (.block 1 (.seq (.reg [mt 22 0,
mt 23 6,
oq 24 (.iaddr (.slice 1) (.t 22) (.t 23)),
oq 25 (ld 24),
mt 7 25])
(.seq (.reg [oq 8 (.mv (ci 0))])
(.block 2 (.loop (.seq (.seq (.reg [mt 26 8,
oq 27 (bi .lss (.t 26) (ci 9))])
(.cond (.t 27) .skip (.exit 2)))
(.seq (.block 3 (.seq (.reg [mt 30 5,
mt 31 7,
oq 32 (bi .rem (.t 31) (.c (.int .u32 (.ofNat 10)))),
oq 33 (bi .add (.c (.int .u32 (.ofNat 48))) (.t 32)),
oq 34 (.conv (.int .u8) (.t 33)),
⟨(some 35),(.a (.bslice 5 1 1 [(.int .u8 (.ofNat 0))] [(0,(.t 34))])),none,0⟩,
⟨(some 36),(.x (.app 5 1 1 (.t 30) (.t 35))),none,0⟩,
mt 5 36])
(.reg [mt 37 7,
oq 38 (bi .quo (.t 37) (.c (.int .u32 (.ofNat 10)))),
mt 7 38])))
(.reg [mt 28 8,
oq 29 (bi .add (.t 28) (ci 1)),
mt 8 29]))))))))
(.reg [mt 20 6,
oq 21 (bi .add (.t 20) (ci 1)),
mt 6 21]))))))
(.seq (.block 4 (.loop (.seq (.seq (.reg [mt 39 5,
oq 40 (.lenSl (.t 39)),
oq 41 (bi .gtr (.t 40) (ci 0)),
mt 42 41,
og 43 42 true 0 (.mv (.t 5)),
og 44 42 true 0 (.mv (.t 5)),
og 45 42 true 0 (.lenSl (.t 44)),
og 46 42 true 0 (bi .sub (.t 45) (ci 1)),
og 47 42 true 0 (.iaddr (.slice 1) (.t 43) (.t 46)),
og 48 42 true 0 (ld 47),
og 49 42 true 0 (bi .eql (.t 48) (.c (.int .u8 (.ofNat 48)))),
oq 50 (.pick (.t 42) (.t 49) (.c (.bool false)))])
(.cond (.t 50) .skip (.exit 4)))
(.block 5 (.reg [mt 51 5,
mt 52 5,
oq 53 (.lenSl (.t 52)),
oq 54 (bi .sub (.t 53) (ci 1)),
oq 55 (.slc (.slice 1) (.t 51) none (some (.t 54)) none),
mt 5 55])))))
(.seq (.seq (.reg [mt 56 5,
oq 57 (.lenSl (.t 56)),
oq 58 (bi .eql (.t 57) (ci 0))])
(.cond (.t 58) (.seq (.reg [oq 2 (.mv (.c (.str [48]))),
oq 3 (.mv (ci 0))])
.ret) .skip))
(.seq (.seq (.reg [mt 59 5,
oq 60 (.lenSl (.t 59)),
oq 61 (bi .sub (.t 60) (ci 1)),
oq 9 (.mv (ci 0)),
mt 10 61])
(.block 6 (.loop (.seq (.seq (.reg [mt 62 9,
mt 63 10,
oq 64 (bi .lss (.t 62) (.t 63))])
(.cond (.t 64) .skip (.exit 6)))
(.seq (.block 7 (.drw [mt 69 5,
mt 70 9,
mt 71 5,
mt 72 10,
mt 73 5,
mt 74 10,
om 75 48 (.iaddr (.slice 1) (.t 73) (.t 74)),
om 76 112 (ld 75),
mt 77 5,
mt 78 9,
om 79 768 (.iaddr (.slice 1) (.t 77) (.t 78)),
om 80 1792 (ld 79),
om 81 4083 (.iaddr (.slice 1) (.t 69) (.t 70)),
⟨none,(.x (.st 1 (.t 81) (.t 76))),none,8179⟩,
om 82 16383 (.iaddr (.slice 1) (.t 71) (.t 72)),
⟨none,(.x (.st 1 (.t 82) (.t 80))),none,32767⟩]))
(.reg [mt 65 9,
oq 66 (bi .add (.t 65) (ci 1)),
mt 67 10,
oq 68 (bi .sub (.t 67) (ci 1)),
mt 9 66,
mt 10 68]))))))
(.seq (.reg [mt 83 5,
oq 84 (.conv .bytesToStr (.t 83)),
mt 2 84,
oq 3 (.mv (ci 0))])
.ret))))))))⟩
theorem row21 : Row Go.Proofs.Tryz.prog (21, a21) := ⟨Go.Proofs.Tryz.f21, Go.Proofs.Tryz.func21, by kernel_rfl⟩
end Go.Ev.Gl
