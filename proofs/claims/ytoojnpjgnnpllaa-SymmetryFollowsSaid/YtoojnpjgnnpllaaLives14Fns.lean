import Derived.Test.YtoojnpjgnnpllaaLives14Ir0
import Derived.Test.YtoojnpjgnnpllaaIr0
import Derived.Test.YtoojnpjgnnpllaaIr1
import Derived.Test.YtoojnpjgnnpllaaIr2
import Derived.Test.YtoojnpjgnnpllaaIr3
namespace Go.Ev.Gl
end Go.Ev.Gl
namespace Go.Proofs.Ytoojnpjgnnpllaa.lives14
open Go.Ev Go.Ev.Gl
set_option maxRecDepth 100000
noncomputable def aAb : List (Nat × eJ) := [(19, a19), (20, a20), (30, a30), (63, a63), (64, a64), (65, a65), (66, a66), (68, a68), (69, a69), (114, a114), (115, a115), (116, a116), (117, a117), (118, a118), (119, a119), (131, a131), (151, a151), (152, a152), (153, a153), (154, a154), (155, a155), (156, a156), (157, a157), (158, a158), (159, a159), (162, a162), (163, a163), (164, a164), (165, a165), (173, a173), (174, a174), (175, a175), (176, a176), (177, a177), (180, a180), (181, a181), (182, a182), (183, a183), (184, a184), (185, a185), (186, a186)]
theorem rows : ∀ p ∈ aAb, Row Try.prog p := by
 unfold aAb
 refine Ag.2 ⟨row19, ?_⟩
 refine Ag.2 ⟨row20, ?_⟩
 refine Ag.2 ⟨row30, ?_⟩
 refine Ag.2 ⟨row63, ?_⟩
 refine Ag.2 ⟨row64, ?_⟩
 refine Ag.2 ⟨row65, ?_⟩
 refine Ag.2 ⟨row66, ?_⟩
 refine Ag.2 ⟨row68, ?_⟩
 refine Ag.2 ⟨row69, ?_⟩
 refine Ag.2 ⟨row114, ?_⟩
 refine Ag.2 ⟨row115, ?_⟩
 refine Ag.2 ⟨row116, ?_⟩
 refine Ag.2 ⟨row117, ?_⟩
 refine Ag.2 ⟨row118, ?_⟩
 refine Ag.2 ⟨row119, ?_⟩
 refine Ag.2 ⟨row131, ?_⟩
 refine Ag.2 ⟨row151, ?_⟩
 refine Ag.2 ⟨row152, ?_⟩
 refine Ag.2 ⟨row153, ?_⟩
 refine Ag.2 ⟨row154, ?_⟩
 refine Ag.2 ⟨row155, ?_⟩
 refine Ag.2 ⟨row156, ?_⟩
 refine Ag.2 ⟨row157, ?_⟩
 refine Ag.2 ⟨row158, ?_⟩
 refine Ag.2 ⟨row159, ?_⟩
 refine Ag.2 ⟨row162, ?_⟩
 refine Ag.2 ⟨row163, ?_⟩
 refine Ag.2 ⟨row164, ?_⟩
 refine Ag.2 ⟨row165, ?_⟩
 refine Ag.2 ⟨row173, ?_⟩
 refine Ag.2 ⟨row174, ?_⟩
 refine Ag.2 ⟨row175, ?_⟩
 refine Ag.2 ⟨row176, ?_⟩
 refine Ag.2 ⟨row177, ?_⟩
 refine Ag.2 ⟨row180, ?_⟩
 refine Ag.2 ⟨row181, ?_⟩
 refine Ag.2 ⟨row182, ?_⟩
 refine Ag.2 ⟨row183, ?_⟩
 refine Ag.2 ⟨row184, ?_⟩
 refine Ag.2 ⟨row185, ?_⟩
 refine Ag.2 ⟨row186, ?_⟩
 intro p hp
 cases hp
theorem knows : sB Try.prog (table aAb) := aFa (by kernel_rfl) rows
noncomputable def tabs : List (Nat × List AV) := []
noncomputable def s0 : AC :=
(.reg [⟨(some 0),(.q (.mv (.c (.bool false)))),none,0⟩])
noncomputable def s1 : AC :=
(.reg [⟨(some 4),(.x (.call (.c (.fn 64 [] [])) [])),none,0⟩,
⟨(some 5),(.x (.call (.c (.fn 63 [] [])) [(.t 4)])),none,0⟩,
⟨(some 3),(.q (.mv (.t 5))),none,0⟩,
⟨(some 6),(.q (.extract (.t 3) 0)),none,0⟩,
⟨(some 7),(.q (.extract (.t 3) 1)),none,0⟩,
⟨(some 1),(.q (.mv (.t 6))),none,0⟩,
⟨(some 2),(.q (.mv (.t 7))),none,0⟩])
noncomputable def s2 : AC :=
(.reg [⟨(some 8),(.q (.mv (.t 2))),none,0⟩,
⟨(some 9),(.q (.bin .eql (.p .int) (.t 8) (.c (.int .i64 (.ofNat 0))))),none,0⟩,
⟨(some 10),(.q (.mv (.t 9))),none,0⟩,
⟨(some 11),(.q (.mv (.t 1))),(some (10,true)),0⟩,
⟨(some 12),(.x (.call (.c (.fn 65 [] [])) [])),(some (10,true)),0⟩,
⟨(some 13),(.a (.bslice 22 1 1 [.nilsl] [(0,(.t 12))])),(some (10,true)),0⟩,
⟨(some 14),(.x (.call (.c (.fn 30 [] [])) [(.t 11),(.t 13)])),(some (10,true)),0⟩,
⟨(some 15),(.q (.pick (.t 10) (.t 14) (.c (.bool false)))),none,0⟩,
⟨(some 16),(.q (.mv (.t 15))),none,0⟩,
⟨(some 17),(.x (.call (.c (.fn 66 [] [])) [])),(some (16,true)),0⟩,
⟨(some 18),(.a (.bslice 3 1 4 [(.int .i64 (.ofNat 0))] [(0,(.c (.int .i64 (.ofNat 0)))),(1,(.c (.int .i64 (.ofNat 2)))),(2,(.c (.int .i64 (.ofNat 1)))),(3,(.c (.int .i64 (.ofNat 3))))])),(some (16,true)),0⟩,
⟨(some 19),(.x (.call (.c (.fn 20 [] [])) [(.t 17),(.t 18)])),(some (16,true)),0⟩,
⟨(some 20),(.q (.bin .eql (.p .int) (.t 19) (.c (.int .i64 (.ofNat 3))))),(some (16,true)),0⟩,
⟨(some 21),(.q (.pick (.t 16) (.t 20) (.c (.bool false)))),none,0⟩,
⟨(some 0),(.q (.mv (.t 21))),none,0⟩])
noncomputable def s3 : AC :=
.ret
theorem body : cFn Try.prog Try.f14 = some ⟨22, [(.t 0)], (.seq s0 (.seq s1 (.seq s2 s3)))⟩ := by kernel_rfl
end Go.Proofs.Ytoojnpjgnnpllaa.lives14
