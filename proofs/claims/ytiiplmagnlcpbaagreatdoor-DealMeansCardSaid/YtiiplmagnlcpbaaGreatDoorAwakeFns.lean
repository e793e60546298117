import Derived.Test.YtiiplmagnlcpbaaGreatDoorAwakeIr0
import Derived.Test.YtiiplmagnlcpbaaGreatDoorIr0
import Derived.Test.YtiiplmagnlcpbaaGreatDoorIr1
import Derived.Test.YtiiplmagnlcpbaaGreatDoorIr2
import Derived.Test.YtiiplmagnlcpbaaGreatDoorIr3
set_option linter.unusedSimpArgs false
set_option linter.unusedVariables false
namespace Go.Ev.Gl
end Go.Ev.Gl
namespace Go.Proofs.YtiiplmagnlcpbaaGreatDoor.awake
open Go.Ev Go.Ev.Gl
set_option maxRecDepth 100000
noncomputable def aBi:List (Nat×dD):=[(8,a8),(15,a15),(16,a16),(17,a17),(18,a18),(20,a20),(25,a25),(27,a27),(28,a28),(29,a29),(30,a30),(39,a39),(40,a40),(41,a41),(47,a47),(48,a48),(50,a50),(51,a51),(52,a52),(67,a67),(71,a71),(72,a72),(73,a73),(74,a74),(75,a75),(76,a76),(90,a90),(91,a91),(92,a92),(93,a93),(94,a94),(95,a95),(110,a110),(111,a111),(112,a112),(113,a113),(114,a114),(115,a115),(130,a130),(131,a131),(132,a132),(148,a148),(149,a149),(150,a150),(154,a154),(171,a171),(172,a172),(173,a173),(174,a174),(175,a175),(176,a176)]
theorem rows:∀p∈aBi,Row Tryz.prog p:=by
 unfold aBi;refine az row8 (az row15 (az row16 (az row17 (az row18 (az row20 (az row25 (az row27 (az row28 (az row29 (az row30 (az row39 (az row40 (az row41 (az row47 (az row48 (az row50 (az row51 (az row52 (az row67 ?_)))))))))))))))))));refine az row71 (az row72 (az row73 (az row74 (az row75 (az row76 (az row90 (az row91 (az row92 (az row93 (az row94 (az row95 (az row110 (az row111 (az row112 (az row113 (az row114 (az row115 (az row130 (az row131 ?_)))))))))))))))))));refine az row132 (az row148 (az row149 (az row150 (az row154 (az row171 (az row172 (az row173 (az row174 (az row175 (az row176 ?_))))))))));intro p hp;cases hp
theorem knows:qD Tryz.prog (table aBi):=aIs (by kernel_rfl) rows
noncomputable def tabs:List (Nat×bo):=[(0,[.int .u8 (.ofNat 0),.int .u8 (.ofNat 1),.int .u8 (.ofNat 56),.int .u8 (.ofNat 2),.int .u8 (.ofNat 57),.int .u8 (.ofNat 49),.int .u8 (.ofNat 28),.int .u8 (.ofNat 3),.int .u8 (.ofNat 61),.int .u8 (.ofNat 58),.int .u8 (.ofNat 42),.int .u8 (.ofNat 50),.int .u8 (.ofNat 38),.int .u8 (.ofNat 29),.int .u8 (.ofNat 17),.int .u8 (.ofNat 4),.int .u8 (.ofNat 62),.int .u8 (.ofNat 47),.int .u8 (.ofNat 59),.int .u8 (.ofNat 36),.int .u8 (.ofNat 45),.int .u8 (.ofNat 43),.int .u8 (.ofNat 51),.int .u8 (.ofNat 22),.int .u8 (.ofNat 53),.int .u8 (.ofNat 39),.int .u8 (.ofNat 33),.int .u8 (.ofNat 30),.int .u8 (.ofNat 24),.int .u8 (.ofNat 18),.int .u8 (.ofNat 12),.int .u8 (.ofNat 5),.int .u8 (.ofNat 63),.int .u8 (.ofNat 55),.int .u8 (.ofNat 48),.int .u8 (.ofNat 27),.int .u8 (.ofNat 60),.int .u8 (.ofNat 41),.int .u8 (.ofNat 37),.int .u8 (.ofNat 16),.int .u8 (.ofNat 46),.int .u8 (.ofNat 35),.int .u8 (.ofNat 44),.int .u8 (.ofNat 21),.int .u8 (.ofNat 52),.int .u8 (.ofNat 32),.int .u8 (.ofNat 23),.int .u8 (.ofNat 11),.int .u8 (.ofNat 54),.int .u8 (.ofNat 26),.int .u8 (.ofNat 40),.int .u8 (.ofNat 15),.int .u8 (.ofNat 34),.int .u8 (.ofNat 20),.int .u8 (.ofNat 31),.int .u8 (.ofNat 10),.int .u8 (.ofNat 25),.int .u8 (.ofNat 14),.int .u8 (.ofNat 19),.int .u8 (.ofNat 9),.int .u8 (.ofNat 13),.int .u8 (.ofNat 8),.int .u8 (.ofNat 7),.int .u8 (.ofNat 6)])]
noncomputable def s0:AC:=
(.reg [⟨(some 0),(.q (.mv (.c (.bool false)))),none,0⟩])
noncomputable def s1:AC:=
(.reg [⟨(some 6),(.x (.call (.c (.fn 18 [] [])) [])),none,0⟩,
⟨(some 7),(.a (.cm 3 1 1 [(.int .i64 (.ofNat 0))] [(0,(.c (.int .i64 (.ofNat 1))))])),none,0⟩,
⟨(some 8),(.x (.call (.c (.fn 8 [] [])) [(.t 6),(.t 7),(.c (.int .i64 (.ofNat 4)))])),none,0⟩,
⟨(some 5),(.q (.mv (.t 8))),none,0⟩,
⟨(some 9),(.q (.extract (.t 5) 0)),none,0⟩,
⟨(some 10),(.q (.extract (.t 5) 1)),none,0⟩,
⟨(some 1),(.q (.mv (.t 9))),none,0⟩,
⟨(some 2),(.q (.mv (.t 10))),none,0⟩])
noncomputable def s2:AC:=
(.reg [⟨(some 12),(.x (.call (.c (.fn 18 [] [])) [])),none,0⟩,
⟨(some 13),(.x (.call (.c (.fn 28 [] [])) [])),none,0⟩,
⟨(some 14),(.x (.call (.c (.fn 27 [] [])) [(.t 12),(.t 13)])),none,0⟩,
⟨(some 11),(.q (.mv (.t 14))),none,0⟩,
⟨(some 15),(.q (.extract (.t 11) 0)),none,0⟩,
⟨(some 16),(.q (.extract (.t 11) 1)),none,0⟩,
⟨(some 3),(.q (.mv (.t 15))),none,0⟩,
⟨(some 4),(.q (.mv (.t 16))),none,0⟩])
noncomputable def s3:AC:=
(.reg [⟨(some 17),(.a (.cm 3 1 4 [(.int .i64 (.ofNat 0))] [(0,(.c (.int .i64 (.ofNat 0)))),(1,(.c (.int .i64 (.ofNat 2)))),(2,(.c (.int .i64 (.ofNat 4)))),(3,(.c (.int .i64 (.ofNat 6))))])),none,0⟩,
⟨(some 18),(.x (.call (.c (.fn 15 [] [])) [(.c (.int .i64 (.ofNat 1))),(.c (.int .i64 (.ofNat 4))),(.t 17)])),none,0⟩,
⟨(some 19),(.q (.mv (.t 18))),none,0⟩,
⟨(some 20),(.q (.mv (.t 1))),(some (19,true)),0⟩,
⟨(some 21),(.q (.bin .eql (.p .int) (.t 20) (.c (.int .i64 (.ofNat 4))))),(some (19,true)),0⟩,
⟨(some 22),(.q (.pick (.t 19) (.t 21) (.c (.bool false)))),none,0⟩,
⟨(some 23),(.q (.mv (.t 22))),none,0⟩,
⟨(some 24),(.q (.mv (.t 2))),(some (23,true)),0⟩,
⟨(some 25),(.q (.bin .eql (.p .int) (.t 24) (.c (.int .i64 (.ofNat 0))))),(some (23,true)),0⟩,
⟨(some 26),(.q (.pick (.t 23) (.t 25) (.c (.bool false)))),none,0⟩,
⟨(some 27),(.q (.mv (.t 26))),none,0⟩,
⟨(some 28),(.q (.mv (.t 3))),(some (27,true)),0⟩,
⟨(some 29),(.q (.bin .eql (.p .int) (.t 28) (.c (.int .i64 (.ofNat 12))))),(some (27,true)),0⟩,
⟨(some 30),(.q (.pick (.t 27) (.t 29) (.c (.bool false)))),none,0⟩,
⟨(some 31),(.q (.mv (.t 30))),none,0⟩,
⟨(some 32),(.q (.mv (.t 4))),(some (31,true)),0⟩,
⟨(some 33),(.q (.bin .eql (.p .int) (.t 32) (.c (.int .i64 (.ofNat 0))))),(some (31,true)),0⟩,
⟨(some 34),(.q (.pick (.t 31) (.t 33) (.c (.bool false)))),none,0⟩,
⟨(some 35),(.q (.mv (.t 34))),none,0⟩,
⟨(some 36),(.a (.cm 3 1 4 [(.int .i64 (.ofNat 0))] [(0,(.c (.int .i64 (.ofNat 0)))),(1,(.c (.int .i64 (.ofNat 2)))),(2,(.c (.int .i64 (.ofNat 4)))),(3,(.c (.int .i64 (.ofNat 5))))])),(some (35,true)),0⟩,
⟨(some 37),(.x (.call (.c (.fn 16 [] [])) [(.c (.int .i64 (.ofNat 4))),(.t 36)])),(some (35,true)),0⟩,
⟨(some 38),(.q (.pick (.t 35) (.t 37) (.c (.bool false)))),none,0⟩,
⟨(some 0),(.q (.mv (.t 38))),none,0⟩])
noncomputable def s4:AC:=
.ret
theorem body:cFn Tryz.prog Tryz.f7=some ⟨39,[(.t 0)],(.seq s0 (.seq s1 (.seq s2 (.seq s3 s4))))⟩:=by kernel_rfl
end Go.Proofs.YtiiplmagnlcpbaaGreatDoor.awake
