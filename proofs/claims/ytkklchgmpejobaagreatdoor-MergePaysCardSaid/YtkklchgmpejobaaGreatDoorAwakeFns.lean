import Derived.Test.YtkklchgmpejobaaGreatDoorAwakeIr0
import Derived.Test.YtkklchgmpejobaaGreatDoorIr0
import Derived.Test.YtkklchgmpejobaaGreatDoorIr1
import Derived.Test.YtkklchgmpejobaaGreatDoorIr2
import Derived.Test.YtkklchgmpejobaaGreatDoorIr3
namespace Go.Ev.Gl
end Go.Ev.Gl
namespace Go.Proofs.YtkklchgmpejobaaGreatDoor.awake
open Go.Ev Go.Ev.Gl
set_option maxRecDepth 100000
noncomputable def aCa:List (Nat×cV):=[(9,a9),(14,a14),(22,a22),(23,a23),(24,a24),(26,a26),(27,a27),(28,a28),(31,a31),(32,a32),(40,a40),(41,a41),(42,a42),(43,a43),(44,a44),(48,a48),(49,a49),(57,a57),(58,a58),(59,a59),(60,a60),(61,a61),(62,a62),(63,a63),(64,a64),(65,a65),(66,a66),(74,a74),(75,a75),(76,a76),(77,a77),(78,a78),(79,a79),(80,a80),(81,a81),(82,a82),(83,a83),(84,a84),(85,a85),(86,a86),(89,a89),(90,a90),(91,a91),(92,a92),(93,a93),(94,a94),(95,a95),(96,a96),(97,a97),(98,a98),(99,a99),(100,a100),(101,a101),(102,a102),(104,a104),(105,a105),(106,a106),(107,a107),(108,a108),(109,a109),(110,a110),(111,a111),(112,a112),(113,a113),(114,a114),(115,a115),(116,a116),(117,a117),(118,a118),(119,a119),(120,a120),(121,a121),(122,a122),(123,a123)]
theorem rows:∀p∈aCa,Row Tryz.prog p:=by
 unfold aCa;refine Ac.2 ⟨row9,?_⟩;refine Ac.2 ⟨row14,?_⟩;refine Ac.2 ⟨row22,?_⟩;refine Ac.2 ⟨row23,?_⟩;refine Ac.2 ⟨row24,?_⟩;refine Ac.2 ⟨row26,?_⟩;refine Ac.2 ⟨row27,?_⟩;refine Ac.2 ⟨row28,?_⟩;refine Ac.2 ⟨row31,?_⟩;refine Ac.2 ⟨row32,?_⟩;refine Ac.2 ⟨row40,?_⟩;refine Ac.2 ⟨row41,?_⟩;refine Ac.2 ⟨row42,?_⟩;refine Ac.2 ⟨row43,?_⟩;refine Ac.2 ⟨row44,?_⟩;refine Ac.2 ⟨row48,?_⟩;refine Ac.2 ⟨row49,?_⟩;refine Ac.2 ⟨row57,?_⟩;refine Ac.2 ⟨row58,?_⟩;refine Ac.2 ⟨row59,?_⟩;refine Ac.2 ⟨row60,?_⟩;refine Ac.2 ⟨row61,?_⟩;refine Ac.2 ⟨row62,?_⟩;refine Ac.2 ⟨row63,?_⟩;refine Ac.2 ⟨row64,?_⟩;refine Ac.2 ⟨row65,?_⟩;refine Ac.2 ⟨row66,?_⟩;refine Ac.2 ⟨row74,?_⟩;refine Ac.2 ⟨row75,?_⟩;refine Ac.2 ⟨row76,?_⟩;refine Ac.2 ⟨row77,?_⟩;refine Ac.2 ⟨row78,?_⟩;refine Ac.2 ⟨row79,?_⟩;refine Ac.2 ⟨row80,?_⟩;refine Ac.2 ⟨row81,?_⟩;refine Ac.2 ⟨row82,?_⟩;refine Ac.2 ⟨row83,?_⟩;refine Ac.2 ⟨row84,?_⟩;refine Ac.2 ⟨row85,?_⟩;refine Ac.2 ⟨row86,?_⟩;refine Ac.2 ⟨row89,?_⟩;refine Ac.2 ⟨row90,?_⟩;refine Ac.2 ⟨row91,?_⟩;refine Ac.2 ⟨row92,?_⟩;refine Ac.2 ⟨row93,?_⟩;refine Ac.2 ⟨row94,?_⟩;refine Ac.2 ⟨row95,?_⟩;refine Ac.2 ⟨row96,?_⟩;refine Ac.2 ⟨row97,?_⟩;refine Ac.2 ⟨row98,?_⟩;refine Ac.2 ⟨row99,?_⟩;refine Ac.2 ⟨row100,?_⟩;refine Ac.2 ⟨row101,?_⟩;refine Ac.2 ⟨row102,?_⟩;refine Ac.2 ⟨row104,?_⟩;refine Ac.2 ⟨row105,?_⟩;refine Ac.2 ⟨row106,?_⟩;refine Ac.2 ⟨row107,?_⟩;refine Ac.2 ⟨row108,?_⟩;refine Ac.2 ⟨row109,?_⟩;refine Ac.2 ⟨row110,?_⟩;refine Ac.2 ⟨row111,?_⟩;refine Ac.2 ⟨row112,?_⟩;refine Ac.2 ⟨row113,?_⟩;refine Ac.2 ⟨row114,?_⟩;refine Ac.2 ⟨row115,?_⟩;refine Ac.2 ⟨row116,?_⟩;refine Ac.2 ⟨row117,?_⟩;refine Ac.2 ⟨row118,?_⟩;refine Ac.2 ⟨row119,?_⟩;refine Ac.2 ⟨row120,?_⟩;refine Ac.2 ⟨row121,?_⟩;refine Ac.2 ⟨row122,?_⟩;refine Ac.2 ⟨row123,?_⟩;intro p hp;cases hp
theorem knows:vI Tryz.prog (table aCa):=aGX (by kernel_rfl) rows
noncomputable def tabs:List (Nat×List AV):=[(1,[.int .u8 (.ofNat 0),.int .u8 (.ofNat 1),.int .u8 (.ofNat 28),.int .u8 (.ofNat 2),.int .u8 (.ofNat 29),.int .u8 (.ofNat 14),.int .u8 (.ofNat 24),.int .u8 (.ofNat 3),.int .u8 (.ofNat 30),.int .u8 (.ofNat 22),.int .u8 (.ofNat 20),.int .u8 (.ofNat 15),.int .u8 (.ofNat 25),.int .u8 (.ofNat 17),.int .u8 (.ofNat 4),.int .u8 (.ofNat 8),.int .u8 (.ofNat 31),.int .u8 (.ofNat 27),.int .u8 (.ofNat 13),.int .u8 (.ofNat 23),.int .u8 (.ofNat 21),.int .u8 (.ofNat 19),.int .u8 (.ofNat 16),.int .u8 (.ofNat 7),.int .u8 (.ofNat 26),.int .u8 (.ofNat 12),.int .u8 (.ofNat 18),.int .u8 (.ofNat 6),.int .u8 (.ofNat 11),.int .u8 (.ofNat 5),.int .u8 (.ofNat 10),.int .u8 (.ofNat 9)]),(2,[.int .u8 (.ofNat 0),.int .u8 (.ofNat 1),.int .u8 (.ofNat 56),.int .u8 (.ofNat 2),.int .u8 (.ofNat 57),.int .u8 (.ofNat 49),.int .u8 (.ofNat 28),.int .u8 (.ofNat 3),.int .u8 (.ofNat 61),.int .u8 (.ofNat 58),.int .u8 (.ofNat 42),.int .u8 (.ofNat 50),.int .u8 (.ofNat 38),.int .u8 (.ofNat 29),.int .u8 (.ofNat 17),.int .u8 (.ofNat 4),.int .u8 (.ofNat 62),.int .u8 (.ofNat 47),.int .u8 (.ofNat 59),.int .u8 (.ofNat 36),.int .u8 (.ofNat 45),.int .u8 (.ofNat 43),.int .u8 (.ofNat 51),.int .u8 (.ofNat 22),.int .u8 (.ofNat 53),.int .u8 (.ofNat 39),.int .u8 (.ofNat 33),.int .u8 (.ofNat 30),.int .u8 (.ofNat 24),.int .u8 (.ofNat 18),.int .u8 (.ofNat 12),.int .u8 (.ofNat 5),.int .u8 (.ofNat 63),.int .u8 (.ofNat 55),.int .u8 (.ofNat 48),.int .u8 (.ofNat 27),.int .u8 (.ofNat 60),.int .u8 (.ofNat 41),.int .u8 (.ofNat 37),.int .u8 (.ofNat 16),.int .u8 (.ofNat 46),.int .u8 (.ofNat 35),.int .u8 (.ofNat 44),.int .u8 (.ofNat 21),.int .u8 (.ofNat 52),.int .u8 (.ofNat 32),.int .u8 (.ofNat 23),.int .u8 (.ofNat 11),.int .u8 (.ofNat 54),.int .u8 (.ofNat 26),.int .u8 (.ofNat 40),.int .u8 (.ofNat 15),.int .u8 (.ofNat 34),.int .u8 (.ofNat 20),.int .u8 (.ofNat 31),.int .u8 (.ofNat 10),.int .u8 (.ofNat 25),.int .u8 (.ofNat 14),.int .u8 (.ofNat 19),.int .u8 (.ofNat 9),.int .u8 (.ofNat 13),.int .u8 (.ofNat 8),.int .u8 (.ofNat 7),.int .u8 (.ofNat 6)]),(0,[.int .u64 (.ofNat 1),.int .u64 (.ofNat 10),.int .u64 (.ofNat 100),.int .u64 (.ofNat 1000),.int .u64 (.ofNat 10000),.int .u64 (.ofNat 100000),.int .u64 (.ofNat 1000000),.int .u64 (.ofNat 10000000),.int .u64 (.ofNat 100000000),.int .u64 (.ofNat 1000000000),.int .u64 (.ofNat 10000000000),.int .u64 (.ofNat 100000000000),.int .u64 (.ofNat 1000000000000),.int .u64 (.ofNat 10000000000000),.int .u64 (.ofNat 100000000000000),.int .u64 (.ofNat 1000000000000000),.int .u64 (.ofNat 10000000000000000),.int .u64 (.ofNat 100000000000000000),.int .u64 (.ofNat 1000000000000000000),.int .u64 (.ofNat 10000000000000000000)])]
noncomputable def s0:AC:=
(.reg [⟨(some 0),(.q (.mv (.c (.bool false)))),none,0⟩])
noncomputable def s1:AC:=
(.reg [⟨(some 6),(.x (.call (.c (.fn 26 [] [])) [])),none,0⟩,
⟨(some 7),(.x (.call (.c (.fn 9 [] [])) [(.t 6)])),none,0⟩,
⟨(some 5),(.q (.mv (.t 7))),none,0⟩,
⟨(some 8),(.q (.extract (.t 5) 0)),none,0⟩,
⟨(some 9),(.q (.extract (.t 5) 1)),none,0⟩,
⟨(some 1),(.a (.alloc 30 [(.int .i64 (.ofNat 0)),.nilsl,.nilsl])),none,0⟩,
⟨none,(.x (.st 3 (.t 1) (.t 8))),none,0⟩,
⟨(some 2),(.q (.mv (.t 9))),none,0⟩])
noncomputable def s2:AC:=
(.reg [⟨(some 11),(.x (.call (.c (.fn 26 [] [])) [])),none,0⟩,
⟨(some 12),(.x (.call (.c (.fn 23 [] [])) [(.t 11)])),none,0⟩,
⟨(some 10),(.q (.mv (.t 12))),none,0⟩,
⟨(some 13),(.q (.extract (.t 10) 0)),none,0⟩,
⟨(some 14),(.q (.extract (.t 10) 1)),none,0⟩,
⟨(some 3),(.q (.mv (.t 13))),none,0⟩,
⟨(some 4),(.q (.mv (.t 14))),none,0⟩])
noncomputable def s3:AC:=
(.drw [⟨(some 15),(.q (.mv (.t 2))),none,0⟩,
⟨(some 16),(.q (.bin .eql (.p .int) (.t 15) (.c (.int .i64 (.ofNat 0))))),none,1⟩,
⟨(some 17),(.q (.mv (.t 16))),none,3⟩,
⟨(some 18),(.q (.ld true 3 (.t 1))),(some (17,true)),7⟩,
⟨(some 19),(.x (.call (.c (.fn 28 [] [])) [])),(some (17,true)),7⟩,
⟨(some 20),(.x (.call (.c (.fn 27 [] [])) [(.t 18),(.t 19)])),(some (17,true)),31⟩,
⟨(some 21),(.q (.pick (.t 17) (.t 20) (.c (.bool false)))),none,63⟩,
⟨(some 22),(.q (.mv (.t 21))),none,127⟩,
⟨(some 23),(.q (.mv (.t 4))),(some (22,true)),255⟩,
⟨(some 24),(.q (.bin .eql (.p .int) (.t 23) (.c (.int .i64 (.ofNat 0))))),(some (22,true)),511⟩,
⟨(some 25),(.q (.pick (.t 22) (.t 24) (.c (.bool false)))),none,1023⟩,
⟨(some 26),(.q (.mv (.t 25))),none,2047⟩,
⟨(some 27),(.q (.mv (.t 3))),(some (26,true)),4095⟩,
⟨(some 28),(.a (.bslice 3 1 8 [(.int .i64 (.ofNat 0))] [(0,(.c (.int .i64 (.ofNat 0)))),(1,(.c (.int .i64 (.ofNat 2)))),(2,(.c (.int .i64 (.ofNat 1)))),(3,(.c (.int .i64 (.ofNat 2)))),(4,(.c (.int .i64 (.ofNat 3)))),(5,(.c (.int .i64 (.ofNat 1)))),(6,(.c (.int .i64 (.ofNat 2)))),(7,(.c (.int .i64 (.ofNat 3))))])),(some (26,true)),4095⟩,
⟨(some 29),(.x (.call (.c (.fn 14 [] [])) [(.t 27),(.t 28)])),(some (26,true)),16383⟩,
⟨(some 30),(.q (.pick (.t 26) (.t 29) (.c (.bool false)))),none,32767⟩,
⟨(some 0),(.q (.mv (.t 30))),none,65535⟩])
noncomputable def s4:AC:=
.ret
theorem body:cFn Tryz.prog Tryz.f6=some ⟨31,[(.t 0)],(.seq s0 (.seq s1 (.seq s2 (.seq s3 s4))))⟩:=by kernel_rfl
end Go.Proofs.YtkklchgmpejobaaGreatDoor.awake
