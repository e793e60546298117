/- ReduceKnown: the table of functions; the statements of the law. -/
import Derived.Test.YtopemogpgppjlaaGreatDoorReduceKnownIr0
import Derived.Test.YtopemogpgppjlaaGreatDoorReduceKnownIr1
import Derived.Test.YtopemogpgppjlaaGreatDoorReduceKnownIr2
import Derived.Test.YtopemogpgppjlaaGreatDoorReduceKnownIr3
namespace Go.Proofs.YtopemogpgppjlaaGreatDoor.reduceKnown
open Go.Ev
set_option maxRecDepth 100000
noncomputable def fnsL : List (Nat × AFn) := [(15, a15), (16, a16), (18, a18), (19, a19), (20, a20), (21, a21), (22, a22), (23, a23), (24, a24), (25, a25), (26, a26), (27, a27), (41, a41), (44, a44), (50, a50), (51, a51), (52, a52), (53, a53), (54, a54), (55, a55), (56, a56), (57, a57), (58, a58), (59, a59), (60, a60), (61, a61), (62, a62), (63, a63), (64, a64), (65, a65), (69, a69), (83, a83), (85, a85), (86, a86), (92, a92), (93, a93), (94, a94), (95, a95), (96, a96), (97, a97), (98, a98), (99, a99), (100, a100), (101, a101), (102, a102), (103, a103), (104, a104), (105, a105), (106, a106), (107, a107), (108, a108), (110, a110), (125, a125), (126, a126), (128, a128), (129, a129), (131, a131), (136, a136), (137, a137), (138, a138), (139, a139), (140, a140), (141, a141), (142, a142), (143, a143), (144, a144), (145, a145), (146, a146), (147, a147), (148, a148), (149, a149), (150, a150), (151, a151), (152, a152), (153, a153), (167, a167), (168, a168), (169, a169), (170, a170), (171, a171), (176, a176), (183, a183), (184, a184), (185, a185), (186, a186), (187, a187), (188, a188), (189, a189), (190, a190), (191, a191), (192, a192), (193, a193), (194, a194), (195, a195), (196, a196), (203, a203), (221, a221), (222, a222), (223, a223), (224, a224), (225, a225), (226, a226), (233, a233), (234, a234), (235, a235), (236, a236), (237, a237), (238, a238), (239, a239), (245, a245), (253, a253), (254, a254), (255, a255), (256, a256), (257, a257), (258, a258), (265, a265), (266, a266), (271, a271), (288, a288), (289, a289), (292, a292), (293, a293), (294, a294), (295, a295)]
theorem rows : ∀ p ∈ fnsL, Row Tryz.prog p := by
  unfold fnsL
  refine List.forall_mem_cons.2 ⟨row15, ?_⟩
  refine List.forall_mem_cons.2 ⟨row16, ?_⟩
  refine List.forall_mem_cons.2 ⟨row18, ?_⟩
  refine List.forall_mem_cons.2 ⟨row19, ?_⟩
  refine List.forall_mem_cons.2 ⟨row20, ?_⟩
  refine List.forall_mem_cons.2 ⟨row21, ?_⟩
  refine List.forall_mem_cons.2 ⟨row22, ?_⟩
  refine List.forall_mem_cons.2 ⟨row23, ?_⟩
  refine List.forall_mem_cons.2 ⟨row24, ?_⟩
  refine List.forall_mem_cons.2 ⟨row25, ?_⟩
  refine List.forall_mem_cons.2 ⟨row26, ?_⟩
  refine List.forall_mem_cons.2 ⟨row27, ?_⟩
  refine List.forall_mem_cons.2 ⟨row41, ?_⟩
  refine List.forall_mem_cons.2 ⟨row44, ?_⟩
  refine List.forall_mem_cons.2 ⟨row50, ?_⟩
  refine List.forall_mem_cons.2 ⟨row51, ?_⟩
  refine List.forall_mem_cons.2 ⟨row52, ?_⟩
  refine List.forall_mem_cons.2 ⟨row53, ?_⟩
  refine List.forall_mem_cons.2 ⟨row54, ?_⟩
  refine List.forall_mem_cons.2 ⟨row55, ?_⟩
  refine List.forall_mem_cons.2 ⟨row56, ?_⟩
  refine List.forall_mem_cons.2 ⟨row57, ?_⟩
  refine List.forall_mem_cons.2 ⟨row58, ?_⟩
  refine List.forall_mem_cons.2 ⟨row59, ?_⟩
  refine List.forall_mem_cons.2 ⟨row60, ?_⟩
  refine List.forall_mem_cons.2 ⟨row61, ?_⟩
  refine List.forall_mem_cons.2 ⟨row62, ?_⟩
  refine List.forall_mem_cons.2 ⟨row63, ?_⟩
  refine List.forall_mem_cons.2 ⟨row64, ?_⟩
  refine List.forall_mem_cons.2 ⟨row65, ?_⟩
  refine List.forall_mem_cons.2 ⟨row69, ?_⟩
  refine List.forall_mem_cons.2 ⟨row83, ?_⟩
  refine List.forall_mem_cons.2 ⟨row85, ?_⟩
  refine List.forall_mem_cons.2 ⟨row86, ?_⟩
  refine List.forall_mem_cons.2 ⟨row92, ?_⟩
  refine List.forall_mem_cons.2 ⟨row93, ?_⟩
  refine List.forall_mem_cons.2 ⟨row94, ?_⟩
  refine List.forall_mem_cons.2 ⟨row95, ?_⟩
  refine List.forall_mem_cons.2 ⟨row96, ?_⟩
  refine List.forall_mem_cons.2 ⟨row97, ?_⟩
  refine List.forall_mem_cons.2 ⟨row98, ?_⟩
  refine List.forall_mem_cons.2 ⟨row99, ?_⟩
  refine List.forall_mem_cons.2 ⟨row100, ?_⟩
  refine List.forall_mem_cons.2 ⟨row101, ?_⟩
  refine List.forall_mem_cons.2 ⟨row102, ?_⟩
  refine List.forall_mem_cons.2 ⟨row103, ?_⟩
  refine List.forall_mem_cons.2 ⟨row104, ?_⟩
  refine List.forall_mem_cons.2 ⟨row105, ?_⟩
  refine List.forall_mem_cons.2 ⟨row106, ?_⟩
  refine List.forall_mem_cons.2 ⟨row107, ?_⟩
  refine List.forall_mem_cons.2 ⟨row108, ?_⟩
  refine List.forall_mem_cons.2 ⟨row110, ?_⟩
  refine List.forall_mem_cons.2 ⟨row125, ?_⟩
  refine List.forall_mem_cons.2 ⟨row126, ?_⟩
  refine List.forall_mem_cons.2 ⟨row128, ?_⟩
  refine List.forall_mem_cons.2 ⟨row129, ?_⟩
  refine List.forall_mem_cons.2 ⟨row131, ?_⟩
  refine List.forall_mem_cons.2 ⟨row136, ?_⟩
  refine List.forall_mem_cons.2 ⟨row137, ?_⟩
  refine List.forall_mem_cons.2 ⟨row138, ?_⟩
  refine List.forall_mem_cons.2 ⟨row139, ?_⟩
  refine List.forall_mem_cons.2 ⟨row140, ?_⟩
  refine List.forall_mem_cons.2 ⟨row141, ?_⟩
  refine List.forall_mem_cons.2 ⟨row142, ?_⟩
  refine List.forall_mem_cons.2 ⟨row143, ?_⟩
  refine List.forall_mem_cons.2 ⟨row144, ?_⟩
  refine List.forall_mem_cons.2 ⟨row145, ?_⟩
  refine List.forall_mem_cons.2 ⟨row146, ?_⟩
  refine List.forall_mem_cons.2 ⟨row147, ?_⟩
  refine List.forall_mem_cons.2 ⟨row148, ?_⟩
  refine List.forall_mem_cons.2 ⟨row149, ?_⟩
  refine List.forall_mem_cons.2 ⟨row150, ?_⟩
  refine List.forall_mem_cons.2 ⟨row151, ?_⟩
  refine List.forall_mem_cons.2 ⟨row152, ?_⟩
  refine List.forall_mem_cons.2 ⟨row153, ?_⟩
  refine List.forall_mem_cons.2 ⟨row167, ?_⟩
  refine List.forall_mem_cons.2 ⟨row168, ?_⟩
  refine List.forall_mem_cons.2 ⟨row169, ?_⟩
  refine List.forall_mem_cons.2 ⟨row170, ?_⟩
  refine List.forall_mem_cons.2 ⟨row171, ?_⟩
  refine List.forall_mem_cons.2 ⟨row176, ?_⟩
  refine List.forall_mem_cons.2 ⟨row183, ?_⟩
  refine List.forall_mem_cons.2 ⟨row184, ?_⟩
  refine List.forall_mem_cons.2 ⟨row185, ?_⟩
  refine List.forall_mem_cons.2 ⟨row186, ?_⟩
  refine List.forall_mem_cons.2 ⟨row187, ?_⟩
  refine List.forall_mem_cons.2 ⟨row188, ?_⟩
  refine List.forall_mem_cons.2 ⟨row189, ?_⟩
  refine List.forall_mem_cons.2 ⟨row190, ?_⟩
  refine List.forall_mem_cons.2 ⟨row191, ?_⟩
  refine List.forall_mem_cons.2 ⟨row192, ?_⟩
  refine List.forall_mem_cons.2 ⟨row193, ?_⟩
  refine List.forall_mem_cons.2 ⟨row194, ?_⟩
  refine List.forall_mem_cons.2 ⟨row195, ?_⟩
  refine List.forall_mem_cons.2 ⟨row196, ?_⟩
  refine List.forall_mem_cons.2 ⟨row203, ?_⟩
  refine List.forall_mem_cons.2 ⟨row221, ?_⟩
  refine List.forall_mem_cons.2 ⟨row222, ?_⟩
  refine List.forall_mem_cons.2 ⟨row223, ?_⟩
  refine List.forall_mem_cons.2 ⟨row224, ?_⟩
  refine List.forall_mem_cons.2 ⟨row225, ?_⟩
  refine List.forall_mem_cons.2 ⟨row226, ?_⟩
  refine List.forall_mem_cons.2 ⟨row233, ?_⟩
  refine List.forall_mem_cons.2 ⟨row234, ?_⟩
  refine List.forall_mem_cons.2 ⟨row235, ?_⟩
  refine List.forall_mem_cons.2 ⟨row236, ?_⟩
  refine List.forall_mem_cons.2 ⟨row237, ?_⟩
  refine List.forall_mem_cons.2 ⟨row238, ?_⟩
  refine List.forall_mem_cons.2 ⟨row239, ?_⟩
  refine List.forall_mem_cons.2 ⟨row245, ?_⟩
  refine List.forall_mem_cons.2 ⟨row253, ?_⟩
  refine List.forall_mem_cons.2 ⟨row254, ?_⟩
  refine List.forall_mem_cons.2 ⟨row255, ?_⟩
  refine List.forall_mem_cons.2 ⟨row256, ?_⟩
  refine List.forall_mem_cons.2 ⟨row257, ?_⟩
  refine List.forall_mem_cons.2 ⟨row258, ?_⟩
  refine List.forall_mem_cons.2 ⟨row265, ?_⟩
  refine List.forall_mem_cons.2 ⟨row266, ?_⟩
  refine List.forall_mem_cons.2 ⟨row271, ?_⟩
  refine List.forall_mem_cons.2 ⟨row288, ?_⟩
  refine List.forall_mem_cons.2 ⟨row289, ?_⟩
  refine List.forall_mem_cons.2 ⟨row292, ?_⟩
  refine List.forall_mem_cons.2 ⟨row293, ?_⟩
  refine List.forall_mem_cons.2 ⟨row294, ?_⟩
  refine List.forall_mem_cons.2 ⟨row295, ?_⟩
  intro p hp
  cases hp
theorem knows : Known Tryz.prog (table fnsL) := known_table (by kernel_rfl) rows
noncomputable def tabs : List (Nat × List AV) := [(0, [.int .u8 (.ofNat 0), .int .u8 (.ofNat 1), .int .u8 (.ofNat 56), .int .u8 (.ofNat 2), .int .u8 (.ofNat 57), .int .u8 (.ofNat 49), .int .u8 (.ofNat 28), .int .u8 (.ofNat 3), .int .u8 (.ofNat 61), .int .u8 (.ofNat 58), .int .u8 (.ofNat 42), .int .u8 (.ofNat 50), .int .u8 (.ofNat 38), .int .u8 (.ofNat 29), .int .u8 (.ofNat 17), .int .u8 (.ofNat 4), .int .u8 (.ofNat 62), .int .u8 (.ofNat 47), .int .u8 (.ofNat 59), .int .u8 (.ofNat 36), .int .u8 (.ofNat 45), .int .u8 (.ofNat 43), .int .u8 (.ofNat 51), .int .u8 (.ofNat 22), .int .u8 (.ofNat 53), .int .u8 (.ofNat 39), .int .u8 (.ofNat 33), .int .u8 (.ofNat 30), .int .u8 (.ofNat 24), .int .u8 (.ofNat 18), .int .u8 (.ofNat 12), .int .u8 (.ofNat 5), .int .u8 (.ofNat 63), .int .u8 (.ofNat 55), .int .u8 (.ofNat 48), .int .u8 (.ofNat 27), .int .u8 (.ofNat 60), .int .u8 (.ofNat 41), .int .u8 (.ofNat 37), .int .u8 (.ofNat 16), .int .u8 (.ofNat 46), .int .u8 (.ofNat 35), .int .u8 (.ofNat 44), .int .u8 (.ofNat 21), .int .u8 (.ofNat 52), .int .u8 (.ofNat 32), .int .u8 (.ofNat 23), .int .u8 (.ofNat 11), .int .u8 (.ofNat 54), .int .u8 (.ofNat 26), .int .u8 (.ofNat 40), .int .u8 (.ofNat 15), .int .u8 (.ofNat 34), .int .u8 (.ofNat 20), .int .u8 (.ofNat 31), .int .u8 (.ofNat 10), .int .u8 (.ofNat 25), .int .u8 (.ofNat 14), .int .u8 (.ofNat 19), .int .u8 (.ofNat 9), .int .u8 (.ofNat 13), .int .u8 (.ofNat 8), .int .u8 (.ofNat 7), .int .u8 (.ofNat 6)])]
noncomputable def s0 : AC :=
(.reg [⟨(some 0),(.q (.mv (.c (.bool false)))),none,0⟩])
noncomputable def s1 : AC :=
(.reg [⟨(some 20),(.x (.call (.c (.fn 18 [] [])) [])),none,0⟩,
⟨(some 1),(.a (.alloc 31 [(.int .i64 (.ofNat 0)),.nilsl,.nilsl])),none,0⟩,
⟨none,(.x (.st 3 (.t 1) (.t 20))),none,0⟩])
noncomputable def s2 : AC :=
(.reg [⟨(some 21),(.a (.bslice 3 1 8 [(.int .i64 (.ofNat 0))] [(0,(.c (.int .i64 (.ofNat 0)))),(1,(.c (.int .i64 (.ofNat 0)))),(2,(.c (.int .i64 (.ofNat 0)))),(3,(.c (.int .i64 (.ofNat 0)))),(4,(.c (.int .i64 (.ofNat 0)))),(5,(.c (.int .i64 (.ofNat 0)))),(6,(.c (.int .i64 (.ofNat 0)))),(7,(.c (.int .i64 (.ofNat 0))))])),none,0⟩,
⟨(some 22),(.x (.call (.c (.fn 19 [] [])) [(.c (.int .i64 (.ofNat 1))),(.t 21)])),none,0⟩,
⟨(some 2),(.q (.mv (.t 22))),none,0⟩])
noncomputable def s3 : AC :=
(.reg [⟨(some 23),(.a (.bslice 3 1 8 [(.int .i64 (.ofNat 0))] [(0,(.c (.int .i64 (.ofNat 5)))),(1,(.c (.int .i64 (.ofNat 8)))),(2,(.c (.int .i64 (.ofNat 2)))),(3,(.c (.int .i64 (.ofNat 0)))),(4,(.c (.int .i64 (.ofNat 4)))),(5,(.c (.int .i64 (.ofNat 16)))),(6,(.c (.int .i64 (.negSucc 7)))),(7,(.c (.int .i64 (.ofNat 24))))])),none,0⟩,
⟨(some 24),(.x (.call (.c (.fn 19 [] [])) [(.c (.int .i64 (.ofNat 8))),(.t 23)])),none,0⟩,
⟨(some 3),(.q (.mv (.t 24))),none,0⟩])
noncomputable def s4 : AC :=
(.drw [⟨(some 26),(.q (.ld true 3 (.t 1))),none,0⟩,
⟨(some 27),(.x (.call (.c (.fn 21 [] [])) [])),none,0⟩,
⟨(some 28),(.x (.call (.c (.fn 22 [] [])) [])),none,2⟩,
⟨(some 29),(.x (.call (.c (.fn 20 [] [])) [(.t 26),(.t 27),(.t 28),(.c (.int .i64 (.ofNat 0))),(.c (.int .i64 (.ofNat 2))),(.c (.int .i64 (.ofNat 0)))])),none,7⟩,
⟨(some 25),(.q (.mv (.t 29))),none,15⟩,
⟨(some 30),(.q (.extract (.t 25) 0)),none,31⟩,
⟨(some 31),(.q (.extract (.t 25) 1)),none,31⟩,
⟨(some 4),(.a (.alloc 43 [(.bool false),.nilsl,.nilsl])),none,0⟩,
⟨none,(.x (.st 3 (.t 4) (.t 30))),none,191⟩,
⟨(some 5),(.q (.mv (.t 31))),none,511⟩])
noncomputable def s5 : AC :=
(.drw [⟨(some 33),(.q (.ld true 3 (.t 1))),none,0⟩,
⟨(some 34),(.x (.call (.c (.fn 21 [] [])) [])),none,0⟩,
⟨(some 35),(.q (.mv (.t 2))),none,0⟩,
⟨(some 36),(.x (.call (.c (.fn 23 [] [])) [(.t 33),(.t 34),(.t 35),(.c (.int .i64 (.ofNat 0))),(.c (.bool true)),(.c (.bool true))])),none,7⟩,
⟨(some 32),(.q (.mv (.t 36))),none,15⟩,
⟨(some 37),(.q (.extract (.t 32) 0)),none,31⟩,
⟨(some 38),(.q (.extract (.t 32) 1)),none,31⟩,
⟨(some 6),(.a (.alloc 43 [(.bool false),.nilsl,.nilsl])),none,0⟩,
⟨none,(.x (.st 3 (.t 6) (.t 37))),none,191⟩,
⟨(some 7),(.q (.mv (.t 38))),none,511⟩])
noncomputable def s6 : AC :=
(.drw [⟨(some 40),(.q (.ld true 3 (.t 1))),none,0⟩,
⟨(some 41),(.x (.call (.c (.fn 21 [] [])) [])),none,0⟩,
⟨(some 42),(.q (.mv (.t 2))),none,0⟩,
⟨(some 43),(.x (.call (.c (.fn 24 [] [])) [(.t 40),(.t 41),(.t 42),(.c (.int .i64 (.ofNat 0))),(.c (.bool true)),(.c (.bool true))])),none,7⟩,
⟨(some 39),(.q (.mv (.t 43))),none,15⟩,
⟨(some 44),(.q (.extract (.t 39) 0)),none,31⟩,
⟨(some 45),(.q (.extract (.t 39) 1)),none,31⟩,
⟨(some 8),(.a (.alloc 43 [(.bool false),.nilsl,.nilsl])),none,0⟩,
⟨none,(.x (.st 3 (.t 8) (.t 44))),none,191⟩,
⟨(some 9),(.q (.mv (.t 45))),none,511⟩])
noncomputable def s7 : AC :=
(.drw [⟨(some 47),(.q (.ld true 3 (.t 1))),none,0⟩,
⟨(some 48),(.x (.call (.c (.fn 21 [] [])) [])),none,0⟩,
⟨(some 49),(.q (.mv (.t 3))),none,0⟩,
⟨(some 50),(.x (.call (.c (.fn 24 [] [])) [(.t 47),(.t 48),(.t 49),(.c (.int .i64 (.ofNat 0))),(.c (.bool true)),(.c (.bool true))])),none,7⟩,
⟨(some 46),(.q (.mv (.t 50))),none,15⟩,
⟨(some 51),(.q (.extract (.t 46) 0)),none,31⟩,
⟨(some 52),(.q (.extract (.t 46) 1)),none,31⟩,
⟨(some 10),(.a (.alloc 43 [(.bool false),.nilsl,.nilsl])),none,0⟩,
⟨none,(.x (.st 3 (.t 10) (.t 51))),none,191⟩,
⟨(some 11),(.q (.mv (.t 52))),none,511⟩])
noncomputable def s8 : AC :=
(.drw [⟨(some 54),(.q (.ld true 3 (.t 1))),none,0⟩,
⟨(some 55),(.x (.call (.c (.fn 21 [] [])) [])),none,0⟩,
⟨(some 56),(.x (.call (.c (.fn 22 [] [])) [])),none,2⟩,
⟨(some 57),(.x (.call (.c (.fn 25 [] [])) [(.t 54),(.t 55),(.t 56),(.c (.int .i64 (.ofNat 0))),(.c (.bool true)),(.c (.bool true)),(.c (.int .i64 (.ofNat 7)))])),none,7⟩,
⟨(some 53),(.q (.mv (.t 57))),none,15⟩,
⟨(some 58),(.q (.extract (.t 53) 0)),none,31⟩,
⟨(some 59),(.q (.extract (.t 53) 1)),none,31⟩,
⟨(some 12),(.a (.alloc 43 [(.bool false),.nilsl,.nilsl])),none,0⟩,
⟨none,(.x (.st 3 (.t 12) (.t 58))),none,191⟩,
⟨(some 13),(.q (.mv (.t 59))),none,511⟩])
noncomputable def s9 : AC :=
(.drw [⟨(some 61),(.q (.ld true 3 (.t 1))),none,0⟩,
⟨(some 62),(.x (.call (.c (.fn 21 [] [])) [])),none,0⟩,
⟨(some 63),(.x (.call (.c (.fn 22 [] [])) [])),none,2⟩,
⟨(some 64),(.x (.call (.c (.fn 25 [] [])) [(.t 61),(.t 62),(.t 63),(.c (.int .i64 (.ofNat 0))),(.c (.bool true)),(.c (.bool false)),(.c (.int .i64 (.ofNat 7)))])),none,7⟩,
⟨(some 60),(.q (.mv (.t 64))),none,15⟩,
⟨(some 65),(.q (.extract (.t 60) 0)),none,31⟩,
⟨(some 66),(.q (.extract (.t 60) 1)),none,31⟩,
⟨(some 14),(.a (.alloc 43 [(.bool false),.nilsl,.nilsl])),none,0⟩,
⟨none,(.x (.st 3 (.t 14) (.t 65))),none,191⟩,
⟨(some 15),(.q (.mv (.t 66))),none,511⟩])
noncomputable def s10 : AC :=
(.drw [⟨(some 68),(.q (.ld true 3 (.t 1))),none,0⟩,
⟨(some 69),(.x (.call (.c (.fn 21 [] [])) [])),none,0⟩,
⟨(some 70),(.x (.call (.c (.fn 22 [] [])) [])),none,2⟩,
⟨(some 71),(.x (.call (.c (.fn 20 [] [])) [(.t 68),(.t 69),(.t 70),(.c (.int .i64 (.ofNat 0))),(.c (.int .i64 (.ofNat 1))),(.c (.int .i64 (.ofNat 0)))])),none,7⟩,
⟨(some 67),(.q (.mv (.t 71))),none,15⟩,
⟨(some 72),(.q (.extract (.t 67) 0)),none,31⟩,
⟨(some 73),(.q (.extract (.t 67) 1)),none,31⟩,
⟨(some 16),(.a (.alloc 43 [(.bool false),.nilsl,.nilsl])),none,0⟩,
⟨none,(.x (.st 3 (.t 16) (.t 72))),none,191⟩,
⟨(some 17),(.q (.mv (.t 73))),none,511⟩])
noncomputable def s11 : AC :=
(.drw [⟨(some 75),(.q (.ld true 3 (.t 1))),none,0⟩,
⟨(some 76),(.x (.call (.c (.fn 21 [] [])) [])),none,0⟩,
⟨(some 77),(.q (.mv (.t 2))),none,0⟩,
⟨(some 78),(.q (.slc (.slice 3) (.t 77) none (some (.c (.int .i64 (.ofNat 2)))) none)),none,4⟩,
⟨(some 79),(.x (.call (.c (.fn 23 [] [])) [(.t 75),(.t 76),(.t 78),(.c (.int .i64 (.ofNat 0))),(.c (.bool true)),(.c (.bool true))])),none,15⟩,
⟨(some 74),(.q (.mv (.t 79))),none,31⟩,
⟨(some 80),(.q (.extract (.t 74) 0)),none,63⟩,
⟨(some 81),(.q (.extract (.t 74) 1)),none,63⟩,
⟨(some 18),(.a (.alloc 43 [(.bool false),.nilsl,.nilsl])),none,0⟩,
⟨none,(.x (.st 3 (.t 18) (.t 80))),none,383⟩,
⟨(some 19),(.q (.mv (.t 81))),none,1023⟩])
noncomputable def s12 : AC :=
(.reg [⟨(some 82),(.x (.call (.c (.fn 26 [] [])) [])),none,0⟩,
⟨(some 83),(.q (.mv (.t 82))),none,0⟩,
⟨(some 84),(.q (.ld true 3 (.t 4))),(some (83,true)),0⟩,
⟨(some 85),(.q (.mv (.t 5))),(some (83,true)),0⟩,
⟨(some 86),(.x (.call (.c (.fn 27 [] [])) [(.t 84),(.t 85),(.c (.int .i64 (.negSucc 1))),(.c (.int .i64 (.ofNat 1)))])),(some (83,true)),0⟩,
⟨(some 87),(.q (.pick (.t 83) (.t 86) (.c (.bool false)))),none,0⟩,
⟨(some 88),(.q (.mv (.t 87))),none,0⟩,
⟨(some 89),(.q (.ld true 3 (.t 6))),(some (88,true)),0⟩,
⟨(some 90),(.q (.mv (.t 7))),(some (88,true)),0⟩,
⟨(some 91),(.x (.call (.c (.fn 27 [] [])) [(.t 89),(.t 90),(.c (.int .i64 (.ofNat 5))),(.c (.int .i64 (.ofNat 8)))])),(some (88,true)),0⟩,
⟨(some 92),(.q (.pick (.t 88) (.t 91) (.c (.bool false)))),none,0⟩,
⟨(some 93),(.q (.mv (.t 92))),none,0⟩,
⟨(some 94),(.q (.ld true 3 (.t 8))),(some (93,true)),0⟩,
⟨(some 95),(.q (.mv (.t 9))),(some (93,true)),0⟩,
⟨(some 96),(.x (.call (.c (.fn 27 [] [])) [(.t 94),(.t 95),(.c (.int .i64 (.ofNat 47))),(.c (.int .i64 (.ofNat 64)))])),(some (93,true)),0⟩,
⟨(some 97),(.q (.pick (.t 93) (.t 96) (.c (.bool false)))),none,0⟩,
⟨(some 98),(.q (.mv (.t 97))),none,0⟩,
⟨(some 99),(.q (.ld true 3 (.t 10))),(some (98,true)),0⟩,
⟨(some 100),(.q (.mv (.t 11))),(some (98,true)),0⟩,
⟨(some 101),(.x (.call (.c (.fn 27 [] [])) [(.t 99),(.t 100),(.c (.int .i64 (.ofNat 0))),(.c (.int .i64 (.ofNat 1)))])),(some (98,true)),0⟩,
⟨(some 102),(.q (.pick (.t 98) (.t 101) (.c (.bool false)))),none,0⟩,
⟨(some 103),(.q (.mv (.t 102))),none,0⟩,
⟨(some 104),(.q (.ld true 3 (.t 12))),(some (103,true)),0⟩,
⟨(some 105),(.q (.mv (.t 13))),(some (103,true)),0⟩,
⟨(some 106),(.x (.call (.c (.fn 27 [] [])) [(.t 104),(.t 105),(.c (.int .i64 (.negSucc 2))),(.c (.int .i64 (.ofNat 1)))])),(some (103,true)),0⟩,
⟨(some 107),(.q (.pick (.t 103) (.t 106) (.c (.bool false)))),none,0⟩,
⟨(some 108),(.q (.mv (.t 107))),none,0⟩,
⟨(some 109),(.q (.ld true 3 (.t 14))),(some (108,true)),0⟩,
⟨(some 110),(.q (.mv (.t 15))),(some (108,true)),0⟩,
⟨(some 111),(.x (.call (.c (.fn 27 [] [])) [(.t 109),(.t 110),(.c (.int .i64 (.negSucc 0))),(.c (.int .i64 (.ofNat 1)))])),(some (108,true)),0⟩,
⟨(some 112),(.q (.pick (.t 108) (.t 111) (.c (.bool false)))),none,0⟩,
⟨(some 113),(.q (.mv (.t 112))),none,0⟩,
⟨(some 114),(.q (.mv (.t 17))),(some (113,true)),0⟩,
⟨(some 115),(.q (.bin .eql (.p .int) (.t 114) (.c (.int .i64 (.ofNat 2))))),(some (113,true)),0⟩,
⟨(some 116),(.q (.pick (.t 113) (.t 115) (.c (.bool false)))),none,0⟩,
⟨(some 117),(.q (.mv (.t 116))),none,0⟩,
⟨(some 118),(.q (.mv (.t 19))),(some (117,true)),0⟩,
⟨(some 119),(.q (.bin .eql (.p .int) (.t 118) (.c (.int .i64 (.ofNat 10))))),(some (117,true)),0⟩,
⟨(some 120),(.q (.pick (.t 117) (.t 119) (.c (.bool false)))),none,0⟩,
⟨(some 0),(.q (.mv (.t 120))),none,0⟩])
noncomputable def s13 : AC :=
.ret
theorem body : cFn Tryz.prog Tryz.f4 = some ⟨121, [(.t 0)], (.seq s0 (.seq s1 (.seq s2 (.seq s3 (.seq s4 (.seq s5 (.seq s6 (.seq s7 (.seq s8 (.seq s9 (.seq s10 (.seq s11 (.seq s12 s13)))))))))))))⟩ := by kernel_rfl
end Go.Proofs.YtopemogpgppjlaaGreatDoor.reduceKnown
