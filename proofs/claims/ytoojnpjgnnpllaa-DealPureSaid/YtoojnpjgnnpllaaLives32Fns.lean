/- Lives32: the table of functions; the statements of the law. -/
import Derived.Test.YtoojnpjgnnpllaaLives32Ir0
import Derived.Test.YtoojnpjgnnpllaaIr0
import Derived.Test.YtoojnpjgnnpllaaIr1
import Derived.Test.YtoojnpjgnnpllaaIr2
import Derived.Test.YtoojnpjgnnpllaaIr3
namespace Go.Ev.Gl
end Go.Ev.Gl
namespace Go.Proofs.Ytoojnpjgnnpllaa.lives32
open Go.Ev Go.Ev.Gl
set_option maxRecDepth 100000
noncomputable def fnsL : List (Nat × AFn) := [(19, a19), (33, a33), (35, a35), (39, a39), (40, a40), (42, a42), (75, a75), (76, a76), (77, a77), (78, a78), (79, a79), (80, a80), (84, a84), (87, a87), (88, a88), (89, a89), (90, a90), (121, a121), (122, a122), (123, a123), (124, a124), (127, a127), (131, a131), (132, a132), (133, a133), (134, a134), (160, a160), (161, a161), (162, a162), (163, a163), (164, a164), (165, a165), (172, a172), (173, a173), (174, a174), (175, a175), (176, a176), (177, a177), (180, a180), (181, a181), (182, a182), (183, a183), (184, a184), (185, a185), (186, a186), (203, a203), (204, a204), (205, a205), (206, a206), (207, a207), (209, a209)]
theorem rows : ∀ p ∈ fnsL, Row Try.prog p := by
  unfold fnsL
  refine List.forall_mem_cons.2 ⟨row19, ?_⟩
  refine List.forall_mem_cons.2 ⟨row33, ?_⟩
  refine List.forall_mem_cons.2 ⟨row35, ?_⟩
  refine List.forall_mem_cons.2 ⟨row39, ?_⟩
  refine List.forall_mem_cons.2 ⟨row40, ?_⟩
  refine List.forall_mem_cons.2 ⟨row42, ?_⟩
  refine List.forall_mem_cons.2 ⟨row75, ?_⟩
  refine List.forall_mem_cons.2 ⟨row76, ?_⟩
  refine List.forall_mem_cons.2 ⟨row77, ?_⟩
  refine List.forall_mem_cons.2 ⟨row78, ?_⟩
  refine List.forall_mem_cons.2 ⟨row79, ?_⟩
  refine List.forall_mem_cons.2 ⟨row80, ?_⟩
  refine List.forall_mem_cons.2 ⟨row84, ?_⟩
  refine List.forall_mem_cons.2 ⟨row87, ?_⟩
  refine List.forall_mem_cons.2 ⟨row88, ?_⟩
  refine List.forall_mem_cons.2 ⟨row89, ?_⟩
  refine List.forall_mem_cons.2 ⟨row90, ?_⟩
  refine List.forall_mem_cons.2 ⟨row121, ?_⟩
  refine List.forall_mem_cons.2 ⟨row122, ?_⟩
  refine List.forall_mem_cons.2 ⟨row123, ?_⟩
  refine List.forall_mem_cons.2 ⟨row124, ?_⟩
  refine List.forall_mem_cons.2 ⟨row127, ?_⟩
  refine List.forall_mem_cons.2 ⟨row131, ?_⟩
  refine List.forall_mem_cons.2 ⟨row132, ?_⟩
  refine List.forall_mem_cons.2 ⟨row133, ?_⟩
  refine List.forall_mem_cons.2 ⟨row134, ?_⟩
  refine List.forall_mem_cons.2 ⟨row160, ?_⟩
  refine List.forall_mem_cons.2 ⟨row161, ?_⟩
  refine List.forall_mem_cons.2 ⟨row162, ?_⟩
  refine List.forall_mem_cons.2 ⟨row163, ?_⟩
  refine List.forall_mem_cons.2 ⟨row164, ?_⟩
  refine List.forall_mem_cons.2 ⟨row165, ?_⟩
  refine List.forall_mem_cons.2 ⟨row172, ?_⟩
  refine List.forall_mem_cons.2 ⟨row173, ?_⟩
  refine List.forall_mem_cons.2 ⟨row174, ?_⟩
  refine List.forall_mem_cons.2 ⟨row175, ?_⟩
  refine List.forall_mem_cons.2 ⟨row176, ?_⟩
  refine List.forall_mem_cons.2 ⟨row177, ?_⟩
  refine List.forall_mem_cons.2 ⟨row180, ?_⟩
  refine List.forall_mem_cons.2 ⟨row181, ?_⟩
  refine List.forall_mem_cons.2 ⟨row182, ?_⟩
  refine List.forall_mem_cons.2 ⟨row183, ?_⟩
  refine List.forall_mem_cons.2 ⟨row184, ?_⟩
  refine List.forall_mem_cons.2 ⟨row185, ?_⟩
  refine List.forall_mem_cons.2 ⟨row186, ?_⟩
  refine List.forall_mem_cons.2 ⟨row203, ?_⟩
  refine List.forall_mem_cons.2 ⟨row204, ?_⟩
  refine List.forall_mem_cons.2 ⟨row205, ?_⟩
  refine List.forall_mem_cons.2 ⟨row206, ?_⟩
  refine List.forall_mem_cons.2 ⟨row207, ?_⟩
  refine List.forall_mem_cons.2 ⟨row209, ?_⟩
  intro p hp
  cases hp
theorem knows : Known Try.prog (table fnsL) := known_table (by kernel_rfl) rows
noncomputable def tabs : List (Nat × List AV) := []
noncomputable def s0 : AC :=
(.reg [⟨(some 0),(.q (.mv (.c (.bool false)))),none,0⟩])
noncomputable def s1 : AC :=
(.reg [⟨(some 6),(.x (.call (.c (.fn 75 [] [])) [])),none,0⟩,
⟨(some 7),(.a (.bslice 3 1 1 [(.int .i64 (.ofNat 0))] [(0,(.c (.int .i64 (.ofNat 1))))])),none,0⟩,
⟨(some 8),(.x (.call (.c (.fn 40 [] [])) [(.t 6),(.t 7),(.c (.int .i64 (.ofNat 4)))])),none,0⟩,
⟨(some 5),(.q (.mv (.t 8))),none,0⟩,
⟨(some 9),(.q (.extract (.t 5) 0)),none,0⟩,
⟨(some 10),(.q (.extract (.t 5) 1)),none,0⟩,
⟨(some 1),(.q (.mv (.t 9))),none,0⟩,
⟨(some 2),(.q (.mv (.t 10))),none,0⟩])
noncomputable def s2 : AC :=
(.reg [⟨(some 12),(.x (.call (.c (.fn 75 [] [])) [])),none,0⟩,
⟨(some 13),(.x (.call (.c (.fn 76 [] [])) [])),none,0⟩,
⟨(some 14),(.x (.call (.c (.fn 33 [] [])) [(.t 12),(.t 13)])),none,0⟩,
⟨(some 11),(.q (.mv (.t 14))),none,0⟩,
⟨(some 15),(.q (.extract (.t 11) 0)),none,0⟩,
⟨(some 16),(.q (.extract (.t 11) 1)),none,0⟩,
⟨(some 3),(.q (.mv (.t 15))),none,0⟩,
⟨(some 4),(.q (.mv (.t 16))),none,0⟩])
noncomputable def s3 : AC :=
(.reg [⟨(some 17),(.a (.bslice 3 1 4 [(.int .i64 (.ofNat 0))] [(0,(.c (.int .i64 (.ofNat 0)))),(1,(.c (.int .i64 (.ofNat 2)))),(2,(.c (.int .i64 (.ofNat 4)))),(3,(.c (.int .i64 (.ofNat 6))))])),none,0⟩,
⟨(some 18),(.x (.call (.c (.fn 77 [] [])) [(.c (.int .i64 (.ofNat 1))),(.c (.int .i64 (.ofNat 4))),(.t 17)])),none,0⟩,
⟨(some 19),(.q (.mv (.t 18))),none,0⟩,
⟨(some 20),(.q (.mv (.t 1))),(some (19,true)),0⟩,
⟨(some 21),(.q (.bin .eql (.p .int) (.t 20) (.c (.int .i64 (.ofNat 4))))),(some (19,true)),0⟩,
⟨(some 22),(.q (.pick (.t 19) (.t 21) (.c (.bool false)))),none,0⟩,
⟨(some 23),(.q (.mv (.t 22))),none,0⟩,
⟨(some 24),(.q (.mv (.t 2))),(some (23,true)),0⟩,
⟨(some 25),(.q (.bin .eql (.p .int) (.t 24) (.c (.int .i64 (.ofNat 0))))),(some (23,true)),0⟩,
⟨(some 26),(.q (.pick (.t 23) (.t 25) (.c (.bool false)))),none,0⟩,
⟨(some 27),(.q (.mv (.t 26))),none,0⟩,
⟨(some 28),(.q (.mv (.t 3))),(some (27,true)),0⟩,
⟨(some 29),(.q (.bin .eql (.p .int) (.t 28) (.c (.int .i64 (.ofNat 12))))),(some (27,true)),0⟩,
⟨(some 30),(.q (.pick (.t 27) (.t 29) (.c (.bool false)))),none,0⟩,
⟨(some 31),(.q (.mv (.t 30))),none,0⟩,
⟨(some 32),(.q (.mv (.t 4))),(some (31,true)),0⟩,
⟨(some 33),(.q (.bin .eql (.p .int) (.t 32) (.c (.int .i64 (.ofNat 0))))),(some (31,true)),0⟩,
⟨(some 34),(.q (.pick (.t 31) (.t 33) (.c (.bool false)))),none,0⟩,
⟨(some 35),(.q (.mv (.t 34))),none,0⟩,
⟨(some 36),(.a (.bslice 3 1 4 [(.int .i64 (.ofNat 0))] [(0,(.c (.int .i64 (.ofNat 0)))),(1,(.c (.int .i64 (.ofNat 2)))),(2,(.c (.int .i64 (.ofNat 4)))),(3,(.c (.int .i64 (.ofNat 5))))])),(some (35,true)),0⟩,
⟨(some 37),(.x (.call (.c (.fn 78 [] [])) [(.c (.int .i64 (.ofNat 4))),(.t 36)])),(some (35,true)),0⟩,
⟨(some 38),(.q (.pick (.t 35) (.t 37) (.c (.bool false)))),none,0⟩,
⟨(some 0),(.q (.mv (.t 38))),none,0⟩])
noncomputable def s4 : AC :=
.ret
theorem body : cFn Try.prog Try.f32 = some ⟨39, [(.t 0)], (.seq s0 (.seq s1 (.seq s2 (.seq s3 s4))))⟩ := by kernel_rfl
end Go.Proofs.Ytoojnpjgnnpllaa.lives32
