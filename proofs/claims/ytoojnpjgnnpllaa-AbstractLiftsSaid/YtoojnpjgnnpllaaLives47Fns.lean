import Derived.Test.YtoojnpjgnnpllaaLives47Ir0
import Derived.Test.YtoojnpjgnnpllaaIr0
import Derived.Test.YtoojnpjgnnpllaaIr1
import Derived.Test.YtoojnpjgnnpllaaIr2
import Derived.Test.YtoojnpjgnnpllaaIr3
namespace Go.Ev.Gl
end Go.Ev.Gl
namespace Go.Proofs.Ytoojnpjgnnpllaa.lives47
open Go.Ev Go.Ev.Gl
set_option maxRecDepth 100000
noncomputable def aBK:List (Nat×dY):=[(19,a19),(21,a21),(22,a22),(30,a30),(48,a48),(68,a68),(69,a69),(92,a92),(95,a95),(96,a96),(97,a97),(107,a107),(116,a116),(119,a119),(131,a131),(136,a136),(137,a137),(138,a138),(139,a139),(147,a147),(152,a152),(155,a155),(156,a156),(157,a157),(158,a158),(159,a159),(162,a162),(163,a163),(164,a164),(165,a165),(166,a166),(167,a167),(173,a173),(174,a174),(175,a175),(176,a176),(177,a177),(178,a178),(179,a179),(180,a180),(181,a181),(182,a182),(183,a183),(184,a184),(185,a185),(186,a186)]
theorem rows:∀p∈aBK,Row Try.prog p:=by
 unfold aBK;refine az row19 (az row21 (az row22 (az row30 (az row48 (az row68 (az row69 (az row92 (az row95 (az row96 (az row97 (az row107 (az row116 (az row119 (az row131 (az row136 (az row137 (az row138 (az row139 (az row147 ?_)))))))))))))))))));refine az row152 (az row155 (az row156 (az row157 (az row158 (az row159 (az row162 (az row163 (az row164 (az row165 (az row166 (az row167 (az row173 (az row174 (az row175 (az row176 (az row177 (az row178 (az row179 (az row180 ?_)))))))))))))))))));refine az row181 (az row182 (az row183 (az row184 (az row185 (az row186 ?_)))));intro p hp;cases hp
theorem knows:tD Try.prog (table aBK):=aHd (by kernel_rfl) rows
noncomputable def tabs:List (Nat×bf):=[]
noncomputable def s0:AC:=
(.reg [⟨(some 0),(.q (.mv (.c (.bool false)))),none,0⟩])
noncomputable def s1:AC:=
(.reg [⟨(some 7),(.q (.build [(.int .i64 (.ofNat 0)),(.int .i64 (.ofNat 0)),(.int .i64 (.ofNat 0)),(.int .i64 (.ofNat 0))] [(0,1,(.c (.int .i64 (.ofNat 3)))),(1,1,(.c (.int .i64 (.ofNat 4)))),(2,1,(.c (.int .i64 (.ofNat 3)))),(3,1,(.c (.int .i64 (.ofNat 4))))])),none,0⟩,
⟨(some 8),(.x (.call (.c (.fn 95 [] [])) [(.t 7)])),none,0⟩,
⟨(some 9),(.a (.cj 3 1 7 [(.int .i64 (.ofNat 0))] [(0,(.c (.int .i64 (.ofNat 0)))),(1,(.c (.int .i64 (.ofNat 4)))),(2,(.c (.int .i64 (.ofNat 5)))),(3,(.c (.int .i64 (.ofNat 6)))),(4,(.c (.int .i64 (.ofNat 1)))),(5,(.c (.int .i64 (.ofNat 2)))),(6,(.c (.int .i64 (.ofNat 3))))])),none,0⟩,
⟨(some 10),(.a (.cj 22 1 1 [.bw] [(0,(.t 9))])),none,0⟩,
⟨(some 11),(.x (.call (.c (.fn 48 [] [])) [(.t 8),(.t 10)])),none,0⟩,
⟨(some 6),(.q (.mv (.t 11))),none,0⟩,
⟨(some 12),(.q (.extract (.t 6) 0)),none,0⟩,
⟨(some 13),(.q (.extract (.t 6) 1)),none,0⟩,
⟨(some 1),(.a (.alloc 73 [(.int .i64 (.ofNat 0)),.bw,.bw,.bw,.bw,.bw])),none,0⟩,
⟨none,(.x (.st 6 (.t 1) (.t 12))),none,0⟩,
⟨(some 2),(.q (.mv (.t 13))),none,0⟩])
noncomputable def s2:AC:=
(.reg [⟨(some 15),(.q (.build [(.int .i64 (.ofNat 0)),(.int .i64 (.ofNat 0)),(.int .i64 (.ofNat 0)),(.int .i64 (.ofNat 0))] [(0,1,(.c (.int .i64 (.ofNat 3)))),(1,1,(.c (.int .i64 (.ofNat 4)))),(2,1,(.c (.int .i64 (.ofNat 4)))),(3,1,(.c (.int .i64 (.ofNat 3))))])),none,0⟩,
⟨(some 16),(.x (.call (.c (.fn 95 [] [])) [(.t 15)])),none,0⟩,
⟨(some 17),(.a (.cj 3 1 7 [(.int .i64 (.ofNat 0))] [(0,(.c (.int .i64 (.ofNat 0)))),(1,(.c (.int .i64 (.ofNat 4)))),(2,(.c (.int .i64 (.ofNat 6)))),(3,(.c (.int .i64 (.ofNat 5)))),(4,(.c (.int .i64 (.ofNat 1)))),(5,(.c (.int .i64 (.ofNat 3)))),(6,(.c (.int .i64 (.ofNat 2))))])),none,0⟩,
⟨(some 18),(.a (.cj 22 1 1 [.bw] [(0,(.t 17))])),none,0⟩,
⟨(some 19),(.x (.call (.c (.fn 48 [] [])) [(.t 16),(.t 18)])),none,0⟩,
⟨(some 14),(.q (.mv (.t 19))),none,0⟩,
⟨(some 20),(.q (.extract (.t 14) 0)),none,0⟩,
⟨(some 21),(.q (.extract (.t 14) 1)),none,0⟩,
⟨(some 3),(.a (.alloc 73 [(.int .i64 (.ofNat 0)),.bw,.bw,.bw,.bw,.bw])),none,0⟩,
⟨none,(.x (.st 6 (.t 3) (.t 20))),none,0⟩,
⟨(some 4),(.q (.mv (.t 21))),none,0⟩])
noncomputable def s3:AC:=
(.reg [⟨(some 22),(.q (.mv (.t 2))),none,0⟩,
⟨(some 23),(.q (.bin .eql (.p .int) (.t 22) (.c (.int .i64 (.ofNat 0))))),none,0⟩,
⟨(some 24),(.q (.mv (.t 23))),none,0⟩,
⟨(some 25),(.q (.cw 3 (.t 1))),(some (24,true)),0⟩,
⟨(some 26),(.q (.ld false 1 (.t 25))),(some (24,true)),0⟩,
⟨(some 27),(.a (.cj 3 1 2 [(.int .i64 (.ofNat 0))] [(0,(.c (.int .i64 (.ofNat 0)))),(1,(.c (.int .i64 (.ofNat 0))))])),(some (24,true)),0⟩,
⟨(some 28),(.x (.call (.c (.fn 19 [] [])) [(.t 26),(.t 27)])),(some (24,true)),0⟩,
⟨(some 29),(.q (.pick (.t 24) (.t 28) (.c (.bool false)))),none,0⟩,
⟨(some 30),(.q (.mv (.t 29))),none,0⟩,
⟨(some 31),(.q (.cw 4 (.t 1))),(some (30,true)),0⟩,
⟨(some 32),(.q (.ld false 1 (.t 31))),(some (30,true)),0⟩,
⟨(some 33),(.a (.cj 3 1 2 [(.int .i64 (.ofNat 0))] [(0,(.c (.int .i64 (.ofNat 0)))),(1,(.c (.int .i64 (.ofNat 1))))])),(some (30,true)),0⟩,
⟨(some 34),(.a (.cj 3 1 2 [(.int .i64 (.ofNat 0))] [(0,(.c (.int .i64 (.ofNat 0)))),(1,(.c (.int .i64 (.ofNat 1))))])),(some (30,true)),0⟩,
⟨(some 35),(.a (.cj 22 1 2 [.bw] [(0,(.t 33)),(1,(.t 34))])),(some (30,true)),0⟩,
⟨(some 36),(.x (.call (.c (.fn 30 [] [])) [(.t 32),(.t 35)])),(some (30,true)),0⟩,
⟨(some 37),(.q (.pick (.t 30) (.t 36) (.c (.bool false)))),none,0⟩,
⟨(some 38),(.q (.mv (.t 37))),none,0⟩,
⟨(some 39),(.q (.cw 5 (.t 1))),(some (38,true)),0⟩,
⟨(some 40),(.q (.ld false 1 (.t 39))),(some (38,true)),0⟩,
⟨(some 41),(.a (.cj 3 1 7 [(.int .i64 (.ofNat 0))] [(0,(.c (.int .i64 (.ofNat 0)))),(1,(.c (.int .i64 (.ofNat 1)))),(2,(.c (.int .i64 (.ofNat 2)))),(3,(.c (.int .i64 (.ofNat 3)))),(4,(.c (.int .i64 (.ofNat 4)))),(5,(.c (.int .i64 (.ofNat 5)))),(6,(.c (.int .i64 (.ofNat 6))))])),(some (38,true)),0⟩,
⟨(some 42),(.x (.call (.c (.fn 19 [] [])) [(.t 40),(.t 41)])),(some (38,true)),0⟩,
⟨(some 43),(.q (.pick (.t 38) (.t 42) (.c (.bool false)))),none,0⟩,
⟨(some 44),(.q (.mv (.t 43))),none,0⟩,
⟨(some 45),(.q (.cw 0 (.t 1))),(some (44,true)),0⟩,
⟨(some 46),(.q (.cw 2 (.t 45))),(some (44,true)),0⟩,
⟨(some 47),(.q (.ld false 1 (.t 46))),(some (44,true)),0⟩,
⟨(some 48),(.q (.ct (.t 47))),(some (44,true)),0⟩,
⟨(some 49),(.q (.bin .eql (.p .int) (.t 48) (.c (.int .i64 (.ofNat 1))))),(some (44,true)),0⟩,
⟨(some 50),(.q (.pick (.t 44) (.t 49) (.c (.bool false)))),none,0⟩,
⟨(some 5),(.q (.mv (.t 50))),none,0⟩])
noncomputable def s4:AC:=
(.reg [⟨(some 51),(.q (.mv (.t 5))),none,0⟩,
⟨(some 52),(.q (.mv (.t 51))),none,0⟩,
⟨(some 53),(.q (.mv (.t 4))),(some (52,true)),0⟩,
⟨(some 54),(.q (.bin .eql (.p .int) (.t 53) (.c (.int .i64 (.ofNat 0))))),(some (52,true)),0⟩,
⟨(some 55),(.q (.pick (.t 52) (.t 54) (.c (.bool false)))),none,0⟩,
⟨(some 56),(.q (.mv (.t 55))),none,0⟩,
⟨(some 57),(.q (.cw 4 (.t 3))),(some (56,true)),0⟩,
⟨(some 58),(.q (.ld false 1 (.t 57))),(some (56,true)),0⟩,
⟨(some 59),(.a (.cj 3 1 2 [(.int .i64 (.ofNat 0))] [(0,(.c (.int .i64 (.ofNat 0)))),(1,(.c (.int .i64 (.ofNat 1))))])),(some (56,true)),0⟩,
⟨(some 60),(.a (.cj 3 1 2 [(.int .i64 (.ofNat 0))] [(0,(.c (.int .i64 (.ofNat 1)))),(1,(.c (.int .i64 (.ofNat 0))))])),(some (56,true)),0⟩,
⟨(some 61),(.a (.cj 22 1 2 [.bw] [(0,(.t 59)),(1,(.t 60))])),(some (56,true)),0⟩,
⟨(some 62),(.x (.call (.c (.fn 30 [] [])) [(.t 58),(.t 61)])),(some (56,true)),0⟩,
⟨(some 63),(.q (.pick (.t 56) (.t 62) (.c (.bool false)))),none,0⟩,
⟨(some 64),(.q (.mv (.t 63))),none,0⟩,
⟨(some 65),(.q (.cw 5 (.t 3))),(some (64,true)),0⟩,
⟨(some 66),(.q (.ld false 1 (.t 65))),(some (64,true)),0⟩,
⟨(some 67),(.a (.cj 3 1 7 [(.int .i64 (.ofNat 0))] [(0,(.c (.int .i64 (.ofNat 0)))),(1,(.c (.int .i64 (.ofNat 1)))),(2,(.c (.int .i64 (.ofNat 2)))),(3,(.c (.int .i64 (.ofNat 3)))),(4,(.c (.int .i64 (.ofNat 4)))),(5,(.c (.int .i64 (.ofNat 6)))),(6,(.c (.int .i64 (.ofNat 5))))])),(some (64,true)),0⟩,
⟨(some 68),(.x (.call (.c (.fn 19 [] [])) [(.t 66),(.t 67)])),(some (64,true)),0⟩,
⟨(some 69),(.q (.pick (.t 64) (.t 68) (.c (.bool false)))),none,0⟩,
⟨(some 0),(.q (.mv (.t 69))),none,0⟩])
noncomputable def s5:AC:=
.ret
theorem body:cFn Try.prog Try.f47=some ⟨70,[(.t 0)],(.seq s0 (.seq s1 (.seq s2 (.seq s3 (.seq s4 s5)))))⟩:=by kernel_rfl
end Go.Proofs.Ytoojnpjgnnpllaa.lives47
