import Derived.Test.YtiiplmagnlcpbaaGreatDoorProg
import Derived.Test.YtiiplmagnlcpbaaGreatDoorEv8
import Derived.KernelRfl
set_option linter.unusedSimpArgs false
set_option linter.unusedVariables false
abbrev Go.Ev.dt:=@Go.Ev.Same.refl
namespace Go.Ev.Gl
end Go.Ev.Gl
namespace Go.Proofs.YtiiplmagnlcpbaaGreatDoor.awake
open Go.Ev Go.Ev.Gl
set_option maxRecDepth 100000
noncomputable section
def a15:dD:=
⟨24,[(.t 6)],(.seq (.reg [oq 6 (.mv (.c (.bool false)))])
(.seq (.reg [oc 10 18 [] 0,
mt 11 0,
⟨(some 12),(.a (.cm 3 1 1 [(.int .i64 (.ofNat 0))] [(0,(.t 11))])),none,0⟩,
mt 13 1,
oc 14 17 [(.t 10),(.t 12),(.t 13)] 0,
mt 9 14,
oq 15 (.extract (.t 9) 0),
oq 16 (.extract (.t 9) 1),
mt 7 15,
mt 8 16])
(.seq (.reg [mt 17 8,
oq 18 (bi .eql (.t 17) (ci 0)),
mt 19 18,
og 20 19 true 0 (.mv (.t 7)),
og 21 19 true 0 (.mv (.t 2)),
⟨(some 22),(.x (.call (.c (.fn 20 [] [])) [(.t 20),(.t 21)])),(some (19,true)),0⟩,
oq 23 (.pick (.t 19) (.t 22) (.c (.bool false))),
mt 6 23])
.ret)))⟩
theorem row15:Row Tryz.prog (15,a15):=⟨Tryz.f15,Tryz.func15,by kernel_rfl⟩
def a16:dD:=
⟨21,[(.t 4)],(.seq (.reg [oq 4 (.mv (.c (.bool false)))])
(.seq (.reg [oc 8 18 [] 0,
oc 9 28 [] 0,
mt 10 0,
oc 11 39 [(.t 8),(.t 9),(.t 10)] 0,
mt 7 11,
oq 12 (.extract (.t 7) 0),
oq 13 (.extract (.t 7) 1),
mt 5 12,
mt 6 13])
(.seq (.reg [mt 14 6,
oq 15 (bi .eql (.t 14) (ci 0)),
mt 16 15,
og 17 16 true 0 (.mv (.t 5)),
og 18 16 true 0 (.mv (.t 1)),
⟨(some 19),(.x (.call (.c (.fn 20 [] [])) [(.t 17),(.t 18)])),(some (16,true)),0⟩,
oq 20 (.pick (.t 16) (.t 19) (.c (.bool false))),
mt 4 20])
.ret)))⟩
theorem row16:Row Tryz.prog (16,a16):=⟨Tryz.f16,Tryz.func16,by kernel_rfl⟩
def a18:dD:=
⟨17,[(.cell 0 true 3)],(.seq (.reg [⟨(some 0),(.a (.alloc 25 [(.int .i64 (.ofNat 0)),.ce,.ce])),none,0⟩])
(.seq (.reg [⟨(some 1),(.a (.cm 3 1 2 [(.int .i64 (.ofNat 0))] [(0,(ci 1)),(1,(ci 2))])),none,0⟩,
⟨(some 2),(.a (.cm 3 1 2 [(.int .i64 (.ofNat 0))] [(0,(ci 1)),(1,(ci 2))])),none,0⟩,
oq 3 (.build [(.int .i64 (.ofNat 0)),(.int .i64 (.ofNat 0)),(.int .i64 (.ofNat 0)),.ce,.ce,.ce] [(0,1,(ci 1)),(3,1,(.t 1)),(4,1,(.t 2))]),
oc 4 41 [(ci 1)] 0,
⟨(some 5),(.a (.cm 3 1 2 [(.int .i64 (.ofNat 0))] [(0,(ci 3)),(1,(ci 4))])),none,0⟩,
oq 6 (.build [(.int .i64 (.ofNat 0)),(.int .i64 (.ofNat 0)),(.int .i64 (.ofNat 0)),.ce,.ce,.ce] [(0,1,(ci 2)),(3,1,(.t 5))]),
oc 7 41 [(ci 5)] 0,
⟨(some 8),(.a (.cm 3 1 2 [(.int .i64 (.ofNat 0))] [(0,(ci 5)),(1,(ci 6))])),none,0⟩,
⟨(some 9),(.a (.cm 3 1 2 [(.int .i64 (.ofNat 0))] [(0,(ci 1)),(1,(ci 1))])),none,0⟩,
oq 10 (.build [(.int .i64 (.ofNat 0)),(.int .i64 (.ofNat 0)),(.int .i64 (.ofNat 0)),.ce,.ce,.ce] [(0,1,(ci 1)),(3,1,(.t 8)),(4,1,(.t 9))]),
oc 11 41 [(ci 2)] 0,
oc 12 41 [(ci 4)] 0,
⟨(some 13),(.a (.cm 73 6 7 [(.int .i64 (.ofNat 0)),(.int .i64 (.ofNat 0)),(.int .i64 (.ofNat 0)),.ce,.ce,.ce] [(0,(.t 3)),(1,(.t 4)),(2,(.t 6)),(3,(.t 7)),(4,(.t 10)),(5,(.t 11)),(6,(.t 12))])),none,0⟩,
oq 14 (.build [(.int .i64 (.ofNat 0)),(.int .i64 (.ofNat 0))] [(1,1,(ci 2))]),
⟨(some 15),(.a (.cm 79 2 1 [(.int .i64 (.ofNat 0)),(.int .i64 (.ofNat 0))] [(0,(.t 14))])),none,0⟩,
oq 16 (.build [(.int .i64 (.ofNat 0)),.ce,.ce] [(0,1,(ci 1)),(1,1,(.t 13)),(2,1,(.t 15))]),
⟨none,(.x (.st 3 (.t 0) (.t 16))),none,0⟩])
.ret))⟩
theorem row18:Row Tryz.prog (18,a18):=⟨Tryz.f18,Tryz.func18,by kernel_rfl⟩
def a27:dD:=
⟨19,[(.t 4),(.t 5)],(.seq (.reg [⟨(some 2),(.a (.box 25 (.t 0))),none,0⟩,
⟨(some 3),(.a (.box 61 (.t 1))),none,0⟩,
oq 4 (.mv (ci 0)),
oq 5 (.mv (ci 0))])
(.seq (.seq (.reg [oq 7 (.ld true 3 (.t 2)),
oq 8 (.ld true 2 (.t 3)),
oc 9 50 [(.t 7),(.t 8)] 0,
mt 6 9])
(.seq (.reg [mt 10 6,
oq 11 (bi .neq (.t 10) (ci 0))])
(.cond (.t 11) (.seq (.reg [mt 12 6,
oq 4 (.mv (ci 0)),
mt 5 12])
.ret) .skip)))
(.seq (.reg [oq 13 (.ld true 3 (.t 2)),
oq 14 (.ld true 2 (.t 3)),
oq 15 (.mkIface 100 (.t 14)),
oc 16 51 [(.t 13),(.t 15)] 0,
oq 17 (.extract (.t 16) 0),
oq 18 (.extract (.t 16) 1),
mt 4 17,
mt 5 18])
.ret)))⟩
theorem row27:Row Tryz.prog (27,a27):=⟨Tryz.f27,Tryz.func27,by kernel_rfl⟩
def a28:dD:=
⟨4,[(.cell 0 true 2)],(.seq (.reg [⟨(some 0),(.a (.alloc 61 [(.int .i64 (.ofNat 0)),.ce])),none,0⟩])
(.seq (.reg [⟨(some 1),(.a (.cm 3 1 2 [(.int .i64 (.ofNat 0))] [(0,(ci 1)),(1,(ci 1))])),none,0⟩,
⟨(some 2),(.a (.cm 26 1 1 [.ce] [(0,(.t 1))])),none,0⟩,
oq 3 (.build [(.int .i64 (.ofNat 0)),.ce] [(0,1,(ci 1)),(1,1,(.t 2))]),
⟨none,(.x (.st 2 (.t 0) (.t 3))),none,0⟩])
.ret))⟩
theorem row28:Row Tryz.prog (28,a28):=⟨Tryz.f28,Tryz.func28,by kernel_rfl⟩
def a39:dD:=
⟨31,[(.t 6),(.t 7)],(.seq (.reg [⟨(some 3),(.a (.box 25 (.t 0))),none,0⟩,
⟨(some 4),(.a (.box 61 (.t 1))),none,0⟩,
oq 6 (.mv (.c .ce)),
oq 7 (.mv (ci 0))])
(.seq (.reg [oq 11 (.ld true 3 (.t 3)),
oq 12 (.ld true 2 (.t 4)),
oc 13 27 [(.t 11),(.t 12)] 0,
mt 10 13,
oq 14 (.extract (.t 10) 0),
oq 15 (.extract (.t 10) 1),
mt 8 14,
mt 9 15])
(.seq (.seq (.reg [mt 16 9,
oq 17 (bi .neq (.t 16) (ci 0))])
(.cond (.t 17) (.seq (.reg [mt 18 9,
oq 6 (.mv (.c .ce)),
mt 7 18])
.ret) .skip))
(.seq (.seq (.reg [mt 19 2,
oq 20 (bi .lss (.t 19) (ci 0)),
mt 21 20,
og 22 21 false 0 (.mv (.t 2)),
og 23 21 false 0 (.mv (.t 8)),
og 24 21 false 0 (bi .geq (.t 22) (.t 23)),
oq 25 (.pick (.t 21) (.c (.bool true)) (.t 24))])
(.cond (.t 25) (.seq (.reg [oq 6 (.mv (.c .ce)),
oq 7 (.mv (ci 2))])
.ret) .skip))
(.seq (.reg [oq 26 (.ld true 3 (.t 3)),
oq 27 (.ld true 2 (.t 4)),
oq 28 (.mkIface 100 (.t 27)),
mt 29 2,
oc 30 40 [(.t 26),(.t 28),(.t 29)] 0,
mt 6 30,
oq 7 (.mv (ci 0))])
.ret)))))⟩
theorem row39:Row Tryz.prog (39,a39):=⟨Tryz.f39,Tryz.func39,by kernel_rfl⟩
def a41:dD:=
⟨6,[(.cell 2 true 6)],(.seq (.reg [⟨(some 2),(.a (.alloc 73 [(.int .i64 (.ofNat 0)),(.int .i64 (.ofNat 0)),(.int .i64 (.ofNat 0)),.ce,.ce,.ce])),none,0⟩])
(.seq (.reg [mt 3 0,
⟨(some 4),(.a (.cm 3 1 1 [(.int .i64 (.ofNat 0))] [(0,(.t 3))])),none,0⟩,
oq 5 (.build [(.int .i64 (.ofNat 0)),(.int .i64 (.ofNat 0)),(.int .i64 (.ofNat 0)),.ce,.ce,.ce] [(0,1,(ci 3)),(5,1,(.t 4))]),
⟨none,(.x (.st 6 (.t 2) (.t 5))),none,0⟩])
.ret))⟩
theorem row41:Row Tryz.prog (41,a41):=⟨Tryz.f41,Tryz.func41,by kernel_rfl⟩
def a50:dD:=
⟨44,[(.t 4)],(.seq (.reg [⟨(some 2),(.a (.box 25 (.t 0))),none,0⟩,
⟨(some 3),(.a (.box 61 (.t 1))),none,0⟩,
oq 4 (.mv (ci 0))])
(.seq (.seq (.reg [oq 9 (.ld true 3 (.t 2)),
oc 10 47 [(.t 9)] 0,
mt 5 10])
(.seq (.reg [mt 11 5,
oq 12 (bi .neq (.t 11) (ci 0))])
(.cond (.t 12) (.seq (.reg [mt 13 5,
mt 4 13])
.ret) .skip)))
(.seq (.seq (.reg [oq 14 (.ld true 2 (.t 3)),
oc 15 74 [(.t 14)] 0,
mt 6 15])
(.seq (.reg [mt 16 6,
oq 17 (bi .neq (.t 16) (ci 0))])
(.cond (.t 17) (.seq (.reg [mt 18 6,
mt 4 18])
.ret) .skip)))
(.seq (.seq (.reg [oq 19 (.cw 1 (.t 3)),
oq 20 (ld 19),
oq 21 (.ct (.t 20)),
oq 22 (.cw 2 (.t 2)),
oq 23 (ld 22),
oq 24 (.ct (.t 23)),
oq 25 (bi .neq (.t 21) (.t 24))])
(.cond (.t 25) (.seq (.reg [oq 4 (.mv (ci 10))])
.ret) .skip))
(.seq (.seq (.reg [oq 26 (.cw 1 (.t 3)),
oq 27 (ld 26),
oq 28 (.ct (.t 27)),
oq 29 (.mv (ci 0))])
(.block 0 (.loop (.seq (.reg [oq 30 (bi .lss (.t 29) (.t 28))])
(.seq (.cond (.t 30) .skip (.exit 0))
(.seq (.block 1 (.seq (.reg [mt 31 29,
oq 32 (.cq (.slice 1) (.t 27) (.t 29)),
oq 33 (ld 32),
mt 7 31,
mt 8 33])
(.seq (.reg [mt 34 8,
oq 35 (.ct (.t 34)),
oq 36 (.cw 2 (.t 2)),
oq 37 (ld 36),
mt 38 7,
oq 39 (.cq (.slice 2) (.t 37) (.t 38)),
oq 40 (.cw 1 (.t 39)),
oq 41 (ld 40),
oq 42 (bi .neq (.t 35) (.t 41))])
(.cond (.t 42) (.seq (.reg [oq 4 (.mv (ci 10))])
.ret) .skip))))
(.reg [oq 43 (bi .add (.t 29) (ci 1)),
mt 29 43])))))))
(.seq (.reg [oq 4 (.mv (ci 0))])
.ret))))))⟩
theorem row50:Row Tryz.prog (50,a50):=⟨Tryz.f50,Tryz.func50,by kernel_rfl⟩
def a51:dD:=
⟨83,[(.t 4),(.t 5)],(.seq (.reg [⟨(some 2),(.a (.box 25 (.t 0))),none,0⟩,
oq 4 (.mv (ci 0)),
oq 5 (.mv (ci 0))])
(.seq (.reg [oq 14 (.cw 1 (.t 2)),
oq 15 (ld 14),
oq 16 (.ct (.t 15)),
⟨(some 17),(.a (.df 3 1 8 [(.int .i64 (.ofNat 0))] (.t 16) (.t 16))),none,0⟩,
mt 6 17])
(.seq (.reg [mt 18 6,
oq 19 (.cq (.slice 1) (.t 18) (ci 0)),
⟨none,(.x (.st 1 (.t 19) (ci 1))),none,0⟩])
(.seq (.reg [oq 7 (.mv (ci 1))])
(.seq (.seq (.reg [oq 20 (.cw 1 (.t 2)),
oq 21 (ld 20),
oq 22 (.ct (.t 21)),
oq 23 (.mv (ci 0))])
(.block 0 (.loop (.seq (.reg [oq 24 (bi .lss (.t 23) (.t 22))])
(.seq (.cond (.t 24) .skip (.exit 0))
(.seq (.block 1 (.seq (.reg [mt 25 23,
oq 26 (.cq (.slice 6) (.t 21) (.t 23)),
oq 27 (.ld true 6 (.t 26)),
⟨(some 9),(.a (.alloc 73 [(.int .i64 (.ofNat 0)),(.int .i64 (.ofNat 0)),(.int .i64 (.ofNat 0)),.ce,.ce,.ce])),none,0⟩,
mt 8 25,
⟨none,(.x (.st 6 (.t 9) (.t 27))),none,0⟩])
(.seq (.seq (.reg [oq 28 (.cw 0 (.t 9)),
oq 29 (ld 28),
oq 30 (bi .eql (.t 29) (ci 3))])
(.cond (.t 30) (.seq (.reg [mt 31 7,
mt 32 7,
mt 33 6,
mt 34 8,
oq 35 (.cq (.slice 1) (.t 33) (.t 34)),
oq 36 (ld 35),
oc 37 75 [(.t 32),(.t 36)] 0,
oq 38 (bi .quo (.t 31) (.t 37)),
mt 10 38])
(.seq (.seq (.reg [mt 39 10,
mt 40 6,
mt 41 8,
oq 42 (.cq (.slice 1) (.t 40) (.t 41)),
oq 43 (ld 42),
oq 44 (bi .quo (ci 1000000000000000) (.t 43)),
oq 45 (bi .gtr (.t 39) (.t 44))])
(.cond (.t 45) (.seq (.reg [oq 4 (.mv (ci 0)),
oq 5 (.mv (ci 5))])
.ret) .skip))
(.seq (.reg [mt 46 10,
mt 47 6,
mt 48 8,
oq 49 (.cq (.slice 1) (.t 47) (.t 48)),
oq 50 (ld 49),
oq 51 (bi .mul (.t 46) (.t 50)),
mt 7 51])
(.exit 1)))) .skip))
(.seq (.drw [oq 52 (.ld true 6 (.t 9)),
mt 53 1,
oc 54 76 [(.t 52),(.t 53)] 3,
oq 55 (.ld true 6 (.t 9)),
⟨(some 56),(.x (.inv [(65,172,none),(100,174,none),(102,52,none)] (.t 54) [(.t 55)])),none,15⟩,
om 11 31 (.mv (.t 56))])
(.seq (.seq (.reg [mt 57 11,
mt 58 6,
mt 59 8,
oq 60 (.cq (.slice 1) (.t 58) (.t 59)),
oq 61 (ld 60),
oq 62 (bi .quo (ci 1000000000000000) (.t 61)),
oq 63 (bi .gtr (.t 57) (.t 62))])
(.cond (.t 63) (.seq (.reg [oq 4 (.mv (ci 0)),
oq 5 (.mv (ci 5))])
.ret) .skip))
(.seq (.reg [oq 64 (.cw 3 (.t 9)),
oq 65 (ld 64),
oq 66 (.ct (.t 65)),
oq 67 (.mv (ci 0))])
(.block 2 (.loop (.seq (.reg [oq 68 (bi .lss (.t 67) (.t 66))])
(.seq (.cond (.t 68) .skip (.exit 2))
(.seq (.block 3 (.seq (.reg [oq 69 (.cq (.slice 1) (.t 65) (.t 67)),
oq 70 (ld 69),
mt 13 70])
(.reg [mt 71 6,
mt 72 13,
mt 73 6,
mt 74 8,
oq 75 (.cq (.slice 1) (.t 73) (.t 74)),
oq 76 (ld 75),
mt 77 11,
oq 78 (bi .mul (.t 76) (.t 77)),
oq 79 (.cq (.slice 1) (.t 71) (.t 72)),
⟨none,(.x (.st 1 (.t 79) (.t 78))),none,0⟩])))
(.reg [oq 80 (bi .add (.t 67) (ci 1)),
mt 67 80]))))))))))))
(.reg [oq 81 (bi .add (.t 23) (ci 1)),
mt 23 81])))))))
(.seq (.reg [mt 82 7,
mt 4 82,
oq 5 (.mv (ci 0))])
.ret))))))⟩
theorem row51:Row Tryz.prog (51,a51):=⟨Tryz.f51,Tryz.func51,by kernel_rfl⟩
def a74:dD:=
⟨55,[(.cell 2 false 1)],(.seq (.reg [⟨(some 1),(.a (.box 61 (.t 0))),none,0⟩,
⟨(some 2),(.a (.alloc 29 [(.int .i64 (.ofNat 0))])),none,0⟩])
(.seq (.seq (.reg [oq 7 (.cw 0 (.t 1)),
oq 8 (ld 7),
oq 9 (bi .lss (.t 8) (ci 1)),
mt 10 9,
og 11 10 false 0 (.cw 0 (.t 1)),
og 12 10 false 0 (ld 11),
og 13 10 false 0 (bi .gtr (.t 12) (ci 30)),
oq 14 (.pick (.t 10) (.c (.bool true)) (.t 13))])
(.cond (.t 14) (.seq (.reg [⟨none,(.x (.st 1 (.t 2) (ci 2))),none,0⟩])
.ret) .skip))
(.seq (.seq (.reg [oq 15 (.cw 1 (.t 1)),
oq 16 (ld 15),
oq 17 (.ct (.t 16)),
oq 18 (bi .gtr (.t 17) (ci 200))])
(.cond (.t 18) (.seq (.reg [⟨none,(.x (.st 1 (.t 2) (ci 4))),none,0⟩])
.ret) .skip))
(.seq (.seq (.reg [oq 19 (.cw 1 (.t 1)),
oq 20 (ld 19),
oc 21 95 [(.t 20)] 0])
(.block 0 (.rng (.t 21) [22] (.reg [mt 3 22]) (.block 1 (.seq (.seq (.reg [mt 23 3,
oq 24 (.ct (.t 23)),
oq 25 (bi .lss (.t 24) (ci 1)),
mt 26 25,
og 27 26 false 0 (.mv (.t 3)),
og 28 26 false 0 (.ct (.t 27)),
og 29 26 false 0 (bi .gtr (.t 28) (ci 10)),
oq 30 (.pick (.t 26) (.c (.bool true)) (.t 29))])
(.cond (.t 30) (.seq (.reg [⟨none,(.x (.st 1 (.t 2) (ci 3))),none,0⟩])
.ret) .skip))
(.seq (.reg [oq 4 (.mv (ci 0))])
(.seq (.seq (.reg [mt 31 3,
oq 32 (.ct (.t 31)),
oq 33 (.mv (ci 0))])
(.block 2 (.loop (.seq (.reg [oq 34 (bi .lss (.t 33) (.t 32))])
(.seq (.cond (.t 34) .skip (.exit 2))
(.seq (.block 3 (.seq (.reg [oq 35 (.cq (.slice 1) (.t 31) (.t 33)),
oq 36 (ld 35),
mt 6 36])
(.seq (.seq (.reg [mt 37 6,
oq 38 (bi .lss (.t 37) (ci 0)),
mt 39 38,
og 40 39 false 0 (.mv (.t 6)),
og 41 39 false 0 (.cw 0 (.t 1)),
og 42 39 false 0 (ld 41),
og 43 39 false 0 (bi .shl (ci 1) (.t 42)),
og 44 39 false 0 (bi .gtr (.t 40) (.t 43)),
oq 45 (.pick (.t 39) (.c (.bool true)) (.t 44))])
(.cond (.t 45) (.seq (.reg [⟨none,(.x (.st 1 (.t 2) (ci 2))),none,0⟩])
.ret) .skip))
(.reg [mt 46 4,
mt 47 6,
oq 48 (bi .add (.t 46) (.t 47)),
mt 4 48]))))
(.reg [oq 49 (bi .add (.t 33) (ci 1)),
mt 33 49])))))))
(.seq (.reg [mt 50 4,
oq 51 (.cw 0 (.t 1)),
oq 52 (ld 51),
oq 53 (bi .shl (ci 1) (.t 52)),
oq 54 (bi .neq (.t 50) (.t 53))])
(.cond (.t 54) (.seq (.reg [⟨none,(.x (.st 1 (.t 2) (ci 14))),none,0⟩])
.ret) .skip)))))))))
(.seq (.reg [⟨none,(.x (.st 1 (.t 2) (ci 0))),none,0⟩])
.ret)))))⟩
theorem row74:Row Tryz.prog (74,a74):=⟨Tryz.f74,Tryz.func74,by kernel_rfl⟩
def a75:dD:=
⟨12,[(.t 4)],(.seq (.reg [oq 4 (.mv (ci 0))])
(.seq (.block 0 (.loop (.seq (.seq (.reg [mt 5 1,
oq 6 (bi .neq (.t 5) (ci 0))])
(.cond (.t 6) .skip (.exit 0)))
(.block 1 (.drw [mt 7 1,
mt 8 0,
mt 9 1,
om 10 6 (bi .rem (.t 8) (.t 9)),
om 0 3 (.mv (.t 7)),
om 1 31 (.mv (.t 10))])))))
(.seq (.reg [mt 11 0,
mt 4 11])
.ret)))⟩
theorem row75:Row Tryz.prog (75,a75):=⟨Tryz.f75,Tryz.func75,by kernel_rfl⟩
def a95:dD:=
⟨4,[(.t 2)],(.seq (.reg [⟨(some 1),(.a (.box 59 (.t 0))),none,0⟩,
oq 2 (.mv (.c .nilfn))])
(.seq (.reg [oq 3 (.mkFunc 115 [] [(.t 1)]),
mt 2 3])
.ret))⟩
theorem row95:Row Tryz.prog (95,a95):=⟨Tryz.f95,Tryz.func95,by kernel_rfl⟩
def a115:dD:=
⟨16,[],(.seq (.reg [oq 5 (ld 1),
oq 6 (.ct (.t 5)),
oq 7 (.mv (ci 0))])
(.block 0 (.loop (.seq (.reg [oq 8 (bi .lss (.t 7) (.t 6))])
(.seq (.cond (.t 8) .skip (.exit 0))
(.seq (.block 1 (.seq (.reg [oq 9 (.cq (.slice 1) (.t 5) (.t 7)),
oq 10 (ld 9),
mt 4 10])
(.seq (.reg [mt 11 0,
mt 12 4,
⟨(some 13),(.x (.call (.t 11) [(.t 12)])),none,0⟩,
oq 14 (.un .not (.t 13))])
(.cond (.t 14) .ret .skip))))
(.reg [oq 15 (bi .add (.t 7) (ci 1)),
mt 7 15])))))))⟩
theorem row115:Row Tryz.prog (115,a115):=⟨Tryz.f115,Tryz.func115,by kernel_rfl⟩
end
end Go.Proofs.YtiiplmagnlcpbaaGreatDoor.awake
