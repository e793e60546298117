import Derived.Test.YtbmodoaceepfoaaLives5Ir0
import Derived.Test.YtbmodoaceepfoaaIr0
import Derived.Test.YtbmodoaceepfoaaIr1
import Derived.Test.YtbmodoaceepfoaaIr2
import Derived.Test.YtbmodoaceepfoaaIr3
set_option linter.all false
namespace Go.Ev.Gl
end Go.Ev.Gl
namespace Go.Proofs.Ytbmodoaceepfoaa.lives5
open Go.Ev Go.Ev.Gl
set_option maxRecDepth 100000
noncomputable def aBA:List (Nat×fD):=[(7,a7),(12,a12),(21,a21),(22,a22),(26,a26),(27,a27),(39,a39),(48,a48),(49,a49),(50,a50),(51,a51),(52,a52),(53,a53),(54,a54),(59,a59),(64,a64),(65,a65),(66,a66),(67,a67),(75,a75),(76,a76),(77,a77),(78,a78),(79,a79),(80,a80),(81,a81),(82,a82),(83,a83),(84,a84),(85,a85),(86,a86),(87,a87),(88,a88),(89,a89),(90,a90),(91,a91),(92,a92),(93,a93),(94,a94),(95,a95),(96,a96),(97,a97),(98,a98),(99,a99),(100,a100),(101,a101)]
def rows:∀p∈aBA,Row Try.prog p:=by
 unfold aBA;refine bf row7 (bf row12 (bf row21 (bf row22 (bf row26 (bf row27 (bf row39 (bf row48 (bf row49 (bf row50 (bf row51 (bf row52 (bf row53 (bf row54 (bf row59 (bf row64 (bf row65 (bf row66 (bf row67 (bf row75 ?_)))))))))))))))))));refine bf row76 (bf row77 (bf row78 (bf row79 (bf row80 (bf row81 (bf row82 (bf row83 (bf row84 (bf row85 (bf row86 (bf row87 (bf row88 (bf row89 (bf row90 (bf row91 (bf row92 (bf row93 (bf row94 (bf row95 ?_)))))))))))))))))));refine bf row96 (bf row97 (bf row98 (bf row99 (bf row100 (bf row101 ?_)))));intro p a;cases a
def knows:qW Try.prog (table aBA):=aI1 (by kernel_rfl) rows
noncomputable def tabs:List (Nat×bu):=[]
noncomputable def s0:AC:=
(.reg [⟨(some 0),(.q (.mv (.c (.bool false)))),none,0⟩])
noncomputable def s1:AC:=
(.reg [⟨(some 7),(.q (.build [(.int .i64 (.ofNat 0)),(.int .i64 (.ofNat 0)),(.int .i64 (.ofNat 0)),(.int .i64 (.ofNat 0))] [(0,1,(.c (.int .i64 (.ofNat 3)))),(1,1,(.c (.int .i64 (.ofNat 4)))),(2,1,(.c (.int .i64 (.ofNat 3)))),(3,1,(.c (.int .i64 (.ofNat 4))))])),none,0⟩,
⟨(some 8),(.x (.call (.c (.fn 21 [] [])) [(.t 7)])),none,0⟩,
⟨(some 9),(.a (.c7 3 1 7 [(.int .i64 (.ofNat 0))] [(0,(.c (.int .i64 (.ofNat 0)))),(1,(.c (.int .i64 (.ofNat 4)))),(2,(.c (.int .i64 (.ofNat 5)))),(3,(.c (.int .i64 (.ofNat 6)))),(4,(.c (.int .i64 (.ofNat 1)))),(5,(.c (.int .i64 (.ofNat 2)))),(6,(.c (.int .i64 (.ofNat 3))))])),none,0⟩,
⟨(some 10),(.a (.c7 22 1 1 [.cr] [(0,(.t 9))])),none,0⟩,
⟨(some 11),(.x (.call (.c (.fn 7 [] [])) [(.t 8),(.t 10)])),none,0⟩,
⟨(some 6),(.q (.mv (.t 11))),none,0⟩,
⟨(some 12),(.q (.extract (.t 6) 0)),none,0⟩,
⟨(some 13),(.q (.extract (.t 6) 1)),none,0⟩,
⟨(some 1),(.a (.alloc 32 [(.int .i64 (.ofNat 0)),.cr,.cr,.cr,.cr,.cr])),none,0⟩,
⟨none,(.x (.st 6 (.t 1) (.t 12))),none,0⟩,
⟨(some 2),(.q (.mv (.t 13))),none,0⟩])
noncomputable def s2:AC:=
(.reg [⟨(some 15),(.q (.build [(.int .i64 (.ofNat 0)),(.int .i64 (.ofNat 0)),(.int .i64 (.ofNat 0)),(.int .i64 (.ofNat 0))] [(0,1,(.c (.int .i64 (.ofNat 3)))),(1,1,(.c (.int .i64 (.ofNat 4)))),(2,1,(.c (.int .i64 (.ofNat 4)))),(3,1,(.c (.int .i64 (.ofNat 3))))])),none,0⟩,
⟨(some 16),(.x (.call (.c (.fn 21 [] [])) [(.t 15)])),none,0⟩,
⟨(some 17),(.a (.c7 3 1 7 [(.int .i64 (.ofNat 0))] [(0,(.c (.int .i64 (.ofNat 0)))),(1,(.c (.int .i64 (.ofNat 4)))),(2,(.c (.int .i64 (.ofNat 6)))),(3,(.c (.int .i64 (.ofNat 5)))),(4,(.c (.int .i64 (.ofNat 1)))),(5,(.c (.int .i64 (.ofNat 3)))),(6,(.c (.int .i64 (.ofNat 2))))])),none,0⟩,
⟨(some 18),(.a (.c7 22 1 1 [.cr] [(0,(.t 17))])),none,0⟩,
⟨(some 19),(.x (.call (.c (.fn 7 [] [])) [(.t 16),(.t 18)])),none,0⟩,
⟨(some 14),(.q (.mv (.t 19))),none,0⟩,
⟨(some 20),(.q (.extract (.t 14) 0)),none,0⟩,
⟨(some 21),(.q (.extract (.t 14) 1)),none,0⟩,
⟨(some 3),(.a (.alloc 32 [(.int .i64 (.ofNat 0)),.cr,.cr,.cr,.cr,.cr])),none,0⟩,
⟨none,(.x (.st 6 (.t 3) (.t 20))),none,0⟩,
⟨(some 4),(.q (.mv (.t 21))),none,0⟩])
noncomputable def s3:AC:=
(.reg [⟨(some 22),(.q (.mv (.t 2))),none,0⟩,
⟨(some 23),(.q (.bin .eql (.p .int) (.t 22) (.c (.int .i64 (.ofNat 0))))),none,0⟩,
⟨(some 24),(.q (.mv (.t 23))),none,0⟩,
⟨(some 25),(.q (.dd 3 (.t 1))),(some (24,true)),0⟩,
⟨(some 26),(.q (.ld false 1 (.t 25))),(some (24,true)),0⟩,
⟨(some 27),(.a (.c7 3 1 2 [(.int .i64 (.ofNat 0))] [(0,(.c (.int .i64 (.ofNat 0)))),(1,(.c (.int .i64 (.ofNat 0))))])),(some (24,true)),0⟩,
⟨(some 28),(.x (.call (.c (.fn 12 [] [])) [(.t 26),(.t 27)])),(some (24,true)),0⟩,
⟨(some 29),(.q (.pick (.t 24) (.t 28) (.c (.bool false)))),none,0⟩,
⟨(some 30),(.q (.mv (.t 29))),none,0⟩,
⟨(some 31),(.q (.dd 4 (.t 1))),(some (30,true)),0⟩,
⟨(some 32),(.q (.ld false 1 (.t 31))),(some (30,true)),0⟩,
⟨(some 33),(.a (.c7 3 1 2 [(.int .i64 (.ofNat 0))] [(0,(.c (.int .i64 (.ofNat 0)))),(1,(.c (.int .i64 (.ofNat 1))))])),(some (30,true)),0⟩,
⟨(some 34),(.a (.c7 3 1 2 [(.int .i64 (.ofNat 0))] [(0,(.c (.int .i64 (.ofNat 0)))),(1,(.c (.int .i64 (.ofNat 1))))])),(some (30,true)),0⟩,
⟨(some 35),(.a (.c7 22 1 2 [.cr] [(0,(.t 33)),(1,(.t 34))])),(some (30,true)),0⟩,
⟨(some 36),(.x (.call (.c (.fn 22 [] [])) [(.t 32),(.t 35)])),(some (30,true)),0⟩,
⟨(some 37),(.q (.pick (.t 30) (.t 36) (.c (.bool false)))),none,0⟩,
⟨(some 38),(.q (.mv (.t 37))),none,0⟩,
⟨(some 39),(.q (.dd 5 (.t 1))),(some (38,true)),0⟩,
⟨(some 40),(.q (.ld false 1 (.t 39))),(some (38,true)),0⟩,
⟨(some 41),(.a (.c7 3 1 7 [(.int .i64 (.ofNat 0))] [(0,(.c (.int .i64 (.ofNat 0)))),(1,(.c (.int .i64 (.ofNat 1)))),(2,(.c (.int .i64 (.ofNat 2)))),(3,(.c (.int .i64 (.ofNat 3)))),(4,(.c (.int .i64 (.ofNat 4)))),(5,(.c (.int .i64 (.ofNat 5)))),(6,(.c (.int .i64 (.ofNat 6))))])),(some (38,true)),0⟩,
⟨(some 42),(.x (.call (.c (.fn 12 [] [])) [(.t 40),(.t 41)])),(some (38,true)),0⟩,
⟨(some 43),(.q (.pick (.t 38) (.t 42) (.c (.bool false)))),none,0⟩,
⟨(some 44),(.q (.mv (.t 43))),none,0⟩,
⟨(some 45),(.q (.dd 0 (.t 1))),(some (44,true)),0⟩,
⟨(some 46),(.q (.dd 2 (.t 45))),(some (44,true)),0⟩,
⟨(some 47),(.q (.ld false 1 (.t 46))),(some (44,true)),0⟩,
⟨(some 48),(.q (.dc (.t 47))),(some (44,true)),0⟩,
⟨(some 49),(.q (.bin .eql (.p .int) (.t 48) (.c (.int .i64 (.ofNat 1))))),(some (44,true)),0⟩,
⟨(some 50),(.q (.pick (.t 44) (.t 49) (.c (.bool false)))),none,0⟩,
⟨(some 5),(.q (.mv (.t 50))),none,0⟩])
noncomputable def s4:AC:=
(.reg [⟨(some 51),(.q (.mv (.t 5))),none,0⟩,
⟨(some 52),(.q (.mv (.t 51))),none,0⟩,
⟨(some 53),(.q (.mv (.t 4))),(some (52,true)),0⟩,
⟨(some 54),(.q (.bin .eql (.p .int) (.t 53) (.c (.int .i64 (.ofNat 0))))),(some (52,true)),0⟩,
⟨(some 55),(.q (.pick (.t 52) (.t 54) (.c (.bool false)))),none,0⟩,
⟨(some 56),(.q (.mv (.t 55))),none,0⟩,
⟨(some 57),(.q (.dd 4 (.t 3))),(some (56,true)),0⟩,
⟨(some 58),(.q (.ld false 1 (.t 57))),(some (56,true)),0⟩,
⟨(some 59),(.a (.c7 3 1 2 [(.int .i64 (.ofNat 0))] [(0,(.c (.int .i64 (.ofNat 0)))),(1,(.c (.int .i64 (.ofNat 1))))])),(some (56,true)),0⟩,
⟨(some 60),(.a (.c7 3 1 2 [(.int .i64 (.ofNat 0))] [(0,(.c (.int .i64 (.ofNat 1)))),(1,(.c (.int .i64 (.ofNat 0))))])),(some (56,true)),0⟩,
⟨(some 61),(.a (.c7 22 1 2 [.cr] [(0,(.t 59)),(1,(.t 60))])),(some (56,true)),0⟩,
⟨(some 62),(.x (.call (.c (.fn 22 [] [])) [(.t 58),(.t 61)])),(some (56,true)),0⟩,
⟨(some 63),(.q (.pick (.t 56) (.t 62) (.c (.bool false)))),none,0⟩,
⟨(some 64),(.q (.mv (.t 63))),none,0⟩,
⟨(some 65),(.q (.dd 5 (.t 3))),(some (64,true)),0⟩,
⟨(some 66),(.q (.ld false 1 (.t 65))),(some (64,true)),0⟩,
⟨(some 67),(.a (.c7 3 1 7 [(.int .i64 (.ofNat 0))] [(0,(.c (.int .i64 (.ofNat 0)))),(1,(.c (.int .i64 (.ofNat 1)))),(2,(.c (.int .i64 (.ofNat 2)))),(3,(.c (.int .i64 (.ofNat 3)))),(4,(.c (.int .i64 (.ofNat 4)))),(5,(.c (.int .i64 (.ofNat 6)))),(6,(.c (.int .i64 (.ofNat 5))))])),(some (64,true)),0⟩,
⟨(some 68),(.x (.call (.c (.fn 12 [] [])) [(.t 66),(.t 67)])),(some (64,true)),0⟩,
⟨(some 69),(.q (.pick (.t 64) (.t 68) (.c (.bool false)))),none,0⟩,
⟨(some 0),(.q (.mv (.t 69))),none,0⟩])
noncomputable def s5:AC:=
.ret
def body:cFn Try.prog Try.f5=some ⟨70,[(.t 0)],(.seq s0 (.seq s1 (.seq s2 (.seq s3 (.seq s4 s5)))))⟩:=by kernel_rfl
end Go.Proofs.Ytbmodoaceepfoaa.lives5
