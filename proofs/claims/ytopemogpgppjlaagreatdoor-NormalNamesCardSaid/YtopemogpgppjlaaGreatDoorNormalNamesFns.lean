/- NormalNames: the table of functions; the statements of the law. -/
import Derived.Test.YtopemogpgppjlaaGreatDoorNormalNamesIr0
import Derived.Test.YtopemogpgppjlaaGreatDoorNormalNamesIr1
import Derived.Test.YtopemogpgppjlaaGreatDoorNormalNamesIr2
import Derived.Test.YtopemogpgppjlaaGreatDoorNormalNamesIr3
namespace Go.Proofs.YtopemogpgppjlaaGreatDoor.normalNames
open Go.Ev
set_option maxRecDepth 100000
noncomputable def fnsL : List (Nat × AFn) := [(14, a14), (28, a28), (29, a29), (30, a30), (31, a31), (32, a32), (33, a33), (34, a34), (35, a35), (36, a36), (37, a37), (38, a38), (39, a39), (40, a40), (66, a66), (67, a67), (68, a68), (69, a69), (70, a70), (71, a71), (72, a72), (73, a73), (74, a74), (75, a75), (76, a76), (77, a77), (78, a78), (79, a79), (80, a80), (81, a81), (82, a82), (83, a83), (92, a92), (109, a109), (110, a110), (111, a111), (112, a112), (113, a113), (114, a114), (115, a115), (116, a116), (117, a117), (118, a118), (119, a119), (120, a120), (121, a121), (122, a122), (123, a123), (124, a124), (125, a125), (126, a126), (131, a131), (150, a150), (151, a151), (152, a152), (153, a153), (154, a154), (155, a155), (156, a156), (157, a157), (158, a158), (159, a159), (160, a160), (161, a161), (162, a162), (163, a163), (164, a164), (165, a165), (166, a166), (167, a167), (168, a168), (169, a169), (170, a170), (171, a171), (176, a176), (183, a183), (192, a192), (193, a193), (194, a194), (195, a195), (196, a196), (197, a197), (198, a198), (199, a199), (200, a200), (201, a201), (202, a202), (203, a203), (204, a204), (205, a205), (206, a206), (207, a207), (208, a208), (209, a209), (210, a210), (211, a211), (212, a212), (213, a213), (214, a214), (215, a215), (216, a216), (217, a217), (218, a218), (219, a219), (220, a220), (221, a221), (222, a222), (223, a223), (224, a224), (225, a225), (226, a226), (238, a238), (239, a239), (240, a240), (241, a241), (242, a242), (243, a243), (244, a244), (245, a245), (246, a246), (247, a247), (248, a248), (249, a249), (250, a250), (251, a251), (252, a252), (253, a253), (254, a254), (255, a255), (256, a256), (257, a257), (258, a258), (265, a265), (266, a266), (267, a267), (268, a268), (271, a271)]
theorem rows : ∀ p ∈ fnsL, Row Tryz.prog p := by
  unfold fnsL
  refine List.forall_mem_cons.2 ⟨row14, ?_⟩
  refine List.forall_mem_cons.2 ⟨row28, ?_⟩
  refine List.forall_mem_cons.2 ⟨row29, ?_⟩
  refine List.forall_mem_cons.2 ⟨row30, ?_⟩
  refine List.forall_mem_cons.2 ⟨row31, ?_⟩
  refine List.forall_mem_cons.2 ⟨row32, ?_⟩
  refine List.forall_mem_cons.2 ⟨row33, ?_⟩
  refine List.forall_mem_cons.2 ⟨row34, ?_⟩
  refine List.forall_mem_cons.2 ⟨row35, ?_⟩
  refine List.forall_mem_cons.2 ⟨row36, ?_⟩
  refine List.forall_mem_cons.2 ⟨row37, ?_⟩
  refine List.forall_mem_cons.2 ⟨row38, ?_⟩
  refine List.forall_mem_cons.2 ⟨row39, ?_⟩
  refine List.forall_mem_cons.2 ⟨row40, ?_⟩
  refine List.forall_mem_cons.2 ⟨row66, ?_⟩
  refine List.forall_mem_cons.2 ⟨row67, ?_⟩
  refine List.forall_mem_cons.2 ⟨row68, ?_⟩
  refine List.forall_mem_cons.2 ⟨row69, ?_⟩
  refine List.forall_mem_cons.2 ⟨row70, ?_⟩
  refine List.forall_mem_cons.2 ⟨row71, ?_⟩
  refine List.forall_mem_cons.2 ⟨row72, ?_⟩
  refine List.forall_mem_cons.2 ⟨row73, ?_⟩
  refine List.forall_mem_cons.2 ⟨row74, ?_⟩
  refine List.forall_mem_cons.2 ⟨row75, ?_⟩
  refine List.forall_mem_cons.2 ⟨row76, ?_⟩
  refine List.forall_mem_cons.2 ⟨row77, ?_⟩
  refine List.forall_mem_cons.2 ⟨row78, ?_⟩
  refine List.forall_mem_cons.2 ⟨row79, ?_⟩
  refine List.forall_mem_cons.2 ⟨row80, ?_⟩
  refine List.forall_mem_cons.2 ⟨row81, ?_⟩
  refine List.forall_mem_cons.2 ⟨row82, ?_⟩
  refine List.forall_mem_cons.2 ⟨row83, ?_⟩
  refine List.forall_mem_cons.2 ⟨row92, ?_⟩
  refine List.forall_mem_cons.2 ⟨row109, ?_⟩
  refine List.forall_mem_cons.2 ⟨row110, ?_⟩
  refine List.forall_mem_cons.2 ⟨row111, ?_⟩
  refine List.forall_mem_cons.2 ⟨row112, ?_⟩
  refine List.forall_mem_cons.2 ⟨row113, ?_⟩
  refine List.forall_mem_cons.2 ⟨row114, ?_⟩
  refine List.forall_mem_cons.2 ⟨row115, ?_⟩
  refine List.forall_mem_cons.2 ⟨row116, ?_⟩
  refine List.forall_mem_cons.2 ⟨row117, ?_⟩
  refine List.forall_mem_cons.2 ⟨row118, ?_⟩
  refine List.forall_mem_cons.2 ⟨row119, ?_⟩
  refine List.forall_mem_cons.2 ⟨row120, ?_⟩
  refine List.forall_mem_cons.2 ⟨row121, ?_⟩
  refine List.forall_mem_cons.2 ⟨row122, ?_⟩
  refine List.forall_mem_cons.2 ⟨row123, ?_⟩
  refine List.forall_mem_cons.2 ⟨row124, ?_⟩
  refine List.forall_mem_cons.2 ⟨row125, ?_⟩
  refine List.forall_mem_cons.2 ⟨row126, ?_⟩
  refine List.forall_mem_cons.2 ⟨row131, ?_⟩
  refine List.forall_mem_cons.2 ⟨row150, ?_⟩
  refine List.forall_mem_cons.2 ⟨row151, ?_⟩
  refine List.forall_mem_cons.2 ⟨row152, ?_⟩
  refine List.forall_mem_cons.2 ⟨row153, ?_⟩
  refine List.forall_mem_cons.2 ⟨row154, ?_⟩
  refine List.forall_mem_cons.2 ⟨row155, ?_⟩
  refine List.forall_mem_cons.2 ⟨row156, ?_⟩
  refine List.forall_mem_cons.2 ⟨row157, ?_⟩
  refine List.forall_mem_cons.2 ⟨row158, ?_⟩
  refine List.forall_mem_cons.2 ⟨row159, ?_⟩
  refine List.forall_mem_cons.2 ⟨row160, ?_⟩
  refine List.forall_mem_cons.2 ⟨row161, ?_⟩
  refine List.forall_mem_cons.2 ⟨row162, ?_⟩
  refine List.forall_mem_cons.2 ⟨row163, ?_⟩
  refine List.forall_mem_cons.2 ⟨row164, ?_⟩
  refine List.forall_mem_cons.2 ⟨row165, ?_⟩
  refine List.forall_mem_cons.2 ⟨row166, ?_⟩
  refine List.forall_mem_cons.2 ⟨row167, ?_⟩
  refine List.forall_mem_cons.2 ⟨row168, ?_⟩
  refine List.forall_mem_cons.2 ⟨row169, ?_⟩
  refine List.forall_mem_cons.2 ⟨row170, ?_⟩
  refine List.forall_mem_cons.2 ⟨row171, ?_⟩
  refine List.forall_mem_cons.2 ⟨row176, ?_⟩
  refine List.forall_mem_cons.2 ⟨row183, ?_⟩
  refine List.forall_mem_cons.2 ⟨row192, ?_⟩
  refine List.forall_mem_cons.2 ⟨row193, ?_⟩
  refine List.forall_mem_cons.2 ⟨row194, ?_⟩
  refine List.forall_mem_cons.2 ⟨row195, ?_⟩
  refine List.forall_mem_cons.2 ⟨row196, ?_⟩
  refine List.forall_mem_cons.2 ⟨row197, ?_⟩
  refine List.forall_mem_cons.2 ⟨row198, ?_⟩
  refine List.forall_mem_cons.2 ⟨row199, ?_⟩
  refine List.forall_mem_cons.2 ⟨row200, ?_⟩
  refine List.forall_mem_cons.2 ⟨row201, ?_⟩
  refine List.forall_mem_cons.2 ⟨row202, ?_⟩
  refine List.forall_mem_cons.2 ⟨row203, ?_⟩
  refine List.forall_mem_cons.2 ⟨row204, ?_⟩
  refine List.forall_mem_cons.2 ⟨row205, ?_⟩
  refine List.forall_mem_cons.2 ⟨row206, ?_⟩
  refine List.forall_mem_cons.2 ⟨row207, ?_⟩
  refine List.forall_mem_cons.2 ⟨row208, ?_⟩
  refine List.forall_mem_cons.2 ⟨row209, ?_⟩
  refine List.forall_mem_cons.2 ⟨row210, ?_⟩
  refine List.forall_mem_cons.2 ⟨row211, ?_⟩
  refine List.forall_mem_cons.2 ⟨row212, ?_⟩
  refine List.forall_mem_cons.2 ⟨row213, ?_⟩
  refine List.forall_mem_cons.2 ⟨row214, ?_⟩
  refine List.forall_mem_cons.2 ⟨row215, ?_⟩
  refine List.forall_mem_cons.2 ⟨row216, ?_⟩
  refine List.forall_mem_cons.2 ⟨row217, ?_⟩
  refine List.forall_mem_cons.2 ⟨row218, ?_⟩
  refine List.forall_mem_cons.2 ⟨row219, ?_⟩
  refine List.forall_mem_cons.2 ⟨row220, ?_⟩
  refine List.forall_mem_cons.2 ⟨row221, ?_⟩
  refine List.forall_mem_cons.2 ⟨row222, ?_⟩
  refine List.forall_mem_cons.2 ⟨row223, ?_⟩
  refine List.forall_mem_cons.2 ⟨row224, ?_⟩
  refine List.forall_mem_cons.2 ⟨row225, ?_⟩
  refine List.forall_mem_cons.2 ⟨row226, ?_⟩
  refine List.forall_mem_cons.2 ⟨row238, ?_⟩
  refine List.forall_mem_cons.2 ⟨row239, ?_⟩
  refine List.forall_mem_cons.2 ⟨row240, ?_⟩
  refine List.forall_mem_cons.2 ⟨row241, ?_⟩
  refine List.forall_mem_cons.2 ⟨row242, ?_⟩
  refine List.forall_mem_cons.2 ⟨row243, ?_⟩
  refine List.forall_mem_cons.2 ⟨row244, ?_⟩
  refine List.forall_mem_cons.2 ⟨row245, ?_⟩
  refine List.forall_mem_cons.2 ⟨row246, ?_⟩
  refine List.forall_mem_cons.2 ⟨row247, ?_⟩
  refine List.forall_mem_cons.2 ⟨row248, ?_⟩
  refine List.forall_mem_cons.2 ⟨row249, ?_⟩
  refine List.forall_mem_cons.2 ⟨row250, ?_⟩
  refine List.forall_mem_cons.2 ⟨row251, ?_⟩
  refine List.forall_mem_cons.2 ⟨row252, ?_⟩
  refine List.forall_mem_cons.2 ⟨row253, ?_⟩
  refine List.forall_mem_cons.2 ⟨row254, ?_⟩
  refine List.forall_mem_cons.2 ⟨row255, ?_⟩
  refine List.forall_mem_cons.2 ⟨row256, ?_⟩
  refine List.forall_mem_cons.2 ⟨row257, ?_⟩
  refine List.forall_mem_cons.2 ⟨row258, ?_⟩
  refine List.forall_mem_cons.2 ⟨row265, ?_⟩
  refine List.forall_mem_cons.2 ⟨row266, ?_⟩
  refine List.forall_mem_cons.2 ⟨row267, ?_⟩
  refine List.forall_mem_cons.2 ⟨row268, ?_⟩
  refine List.forall_mem_cons.2 ⟨row271, ?_⟩
  intro p hp
  cases hp
theorem knows : Known Tryz.prog (table fnsL) := known_table (by kernel_rfl) rows
noncomputable def tabs : List (Nat × List AV) := [(0, [.int .u8 (.ofNat 0), .int .u8 (.ofNat 1), .int .u8 (.ofNat 56), .int .u8 (.ofNat 2), .int .u8 (.ofNat 57), .int .u8 (.ofNat 49), .int .u8 (.ofNat 28), .int .u8 (.ofNat 3), .int .u8 (.ofNat 61), .int .u8 (.ofNat 58), .int .u8 (.ofNat 42), .int .u8 (.ofNat 50), .int .u8 (.ofNat 38), .int .u8 (.ofNat 29), .int .u8 (.ofNat 17), .int .u8 (.ofNat 4), .int .u8 (.ofNat 62), .int .u8 (.ofNat 47), .int .u8 (.ofNat 59), .int .u8 (.ofNat 36), .int .u8 (.ofNat 45), .int .u8 (.ofNat 43), .int .u8 (.ofNat 51), .int .u8 (.ofNat 22), .int .u8 (.ofNat 53), .int .u8 (.ofNat 39), .int .u8 (.ofNat 33), .int .u8 (.ofNat 30), .int .u8 (.ofNat 24), .int .u8 (.ofNat 18), .int .u8 (.ofNat 12), .int .u8 (.ofNat 5), .int .u8 (.ofNat 63), .int .u8 (.ofNat 55), .int .u8 (.ofNat 48), .int .u8 (.ofNat 27), .int .u8 (.ofNat 60), .int .u8 (.ofNat 41), .int .u8 (.ofNat 37), .int .u8 (.ofNat 16), .int .u8 (.ofNat 46), .int .u8 (.ofNat 35), .int .u8 (.ofNat 44), .int .u8 (.ofNat 21), .int .u8 (.ofNat 52), .int .u8 (.ofNat 32), .int .u8 (.ofNat 23), .int .u8 (.ofNat 11), .int .u8 (.ofNat 54), .int .u8 (.ofNat 26), .int .u8 (.ofNat 40), .int .u8 (.ofNat 15), .int .u8 (.ofNat 34), .int .u8 (.ofNat 20), .int .u8 (.ofNat 31), .int .u8 (.ofNat 10), .int .u8 (.ofNat 25), .int .u8 (.ofNat 14), .int .u8 (.ofNat 19), .int .u8 (.ofNat 9), .int .u8 (.ofNat 13), .int .u8 (.ofNat 8), .int .u8 (.ofNat 7), .int .u8 (.ofNat 6)])]
noncomputable def s0 : AC :=
(.reg [⟨(some 0),(.q (.mv (.c (.bool false)))),none,0⟩])
noncomputable def s1 : AC :=
(.seq (.reg [⟨(some 34),(.x (.call (.c (.fn 28 [] [])) [])),none,0⟩,
⟨(some 35),(.q (.un .not (.t 34))),none,0⟩])
(.cond (.t 35) (.seq (.reg [⟨(some 0),(.q (.mv (.c (.bool false)))),none,0⟩])
.ret) .skip))
noncomputable def s2 : AC :=
(.reg [⟨(some 36),(.x (.call (.c (.fn 29 [] [])) [])),none,0⟩,
⟨(some 1),(.a (.alloc 31 [(.int .i64 (.ofNat 0)),.nilsl,.nilsl])),none,0⟩,
⟨none,(.x (.st 3 (.t 1) (.t 36))),none,0⟩])
noncomputable def s3 : AC :=
(.reg [⟨(some 38),(.q (.ld true 3 (.t 1))),none,0⟩,
⟨(some 39),(.x (.call (.c (.fn 30 [] [])) [(.t 38)])),none,0⟩,
⟨(some 37),(.q (.mv (.t 39))),none,0⟩,
⟨(some 40),(.q (.extract (.t 37) 0)),none,0⟩,
⟨(some 41),(.q (.extract (.t 37) 1)),none,0⟩,
⟨(some 2),(.q (.mv (.t 40))),none,0⟩,
⟨(some 3),(.q (.mv (.t 41))),none,0⟩])
noncomputable def s4 : AC :=
(.reg [⟨(some 43),(.q (.ld true 3 (.t 1))),none,0⟩,
⟨(some 44),(.x (.call (.c (.fn 31 [] [])) [(.t 43),(.c (.int .i64 (.ofNat 0))),(.c (.int .i64 (.ofNat 1)))])),none,0⟩,
⟨(some 42),(.q (.mv (.t 44))),none,0⟩,
⟨(some 45),(.q (.extract (.t 42) 0)),none,0⟩,
⟨(some 46),(.q (.extract (.t 42) 1)),none,0⟩,
⟨(some 4),(.q (.mv (.t 45))),none,0⟩,
⟨(some 5),(.q (.mv (.t 46))),none,0⟩])
noncomputable def s5 : AC :=
(.reg [⟨(some 48),(.q (.ld true 3 (.t 1))),none,0⟩,
⟨(some 49),(.a (.bslice 3 1 1 [(.int .i64 (.ofNat 0))] [(0,(.c (.int .i64 (.ofNat 1))))])),none,0⟩,
⟨(some 50),(.x (.call (.c (.fn 32 [] [])) [(.t 48),(.c (.int .i64 (.ofNat 1))),(.t 49)])),none,0⟩,
⟨(some 47),(.q (.mv (.t 50))),none,0⟩,
⟨(some 51),(.q (.extract (.t 47) 0)),none,0⟩,
⟨(some 52),(.q (.extract (.t 47) 1)),none,0⟩,
⟨(some 6),(.q (.mv (.t 51))),none,0⟩,
⟨(some 7),(.q (.mv (.t 52))),none,0⟩])
noncomputable def s6 : AC :=
(.reg [⟨(some 54),(.q (.ld true 3 (.t 1))),none,0⟩,
⟨(some 55),(.a (.bslice 3 1 1 [(.int .i64 (.ofNat 0))] [(0,(.c (.int .i64 (.ofNat 2))))])),none,0⟩,
⟨(some 56),(.x (.call (.c (.fn 32 [] [])) [(.t 54),(.c (.int .i64 (.ofNat 1))),(.t 55)])),none,0⟩,
⟨(some 53),(.q (.mv (.t 56))),none,0⟩,
⟨(some 57),(.q (.extract (.t 53) 0)),none,0⟩,
⟨(some 58),(.q (.extract (.t 53) 1)),none,0⟩,
⟨(some 8),(.q (.mv (.t 57))),none,0⟩,
⟨(some 9),(.q (.mv (.t 58))),none,0⟩])
noncomputable def s7 : AC :=
(.reg [⟨(some 60),(.q (.ld true 3 (.t 1))),none,0⟩,
⟨(some 61),(.x (.call (.c (.fn 31 [] [])) [(.t 60),(.c (.int .i64 (.ofNat 2))),(.c (.int .i64 (.ofNat 0)))])),none,0⟩,
⟨(some 59),(.q (.mv (.t 61))),none,0⟩,
⟨(some 62),(.q (.extract (.t 59) 0)),none,0⟩,
⟨(some 63),(.q (.extract (.t 59) 1)),none,0⟩,
⟨(some 10),(.q (.mv (.t 62))),none,0⟩,
⟨(some 11),(.q (.mv (.t 63))),none,0⟩])
noncomputable def s8 : AC :=
(.reg [⟨(some 65),(.x (.call (.c (.fn 33 [] [])) [])),none,0⟩,
⟨(some 66),(.x (.call (.c (.fn 30 [] [])) [(.t 65)])),none,0⟩,
⟨(some 64),(.q (.mv (.t 66))),none,0⟩,
⟨(some 67),(.q (.extract (.t 64) 0)),none,0⟩,
⟨(some 68),(.q (.extract (.t 64) 1)),none,0⟩,
⟨(some 12),(.q (.mv (.t 67))),none,0⟩,
⟨(some 13),(.q (.mv (.t 68))),none,0⟩])
noncomputable def s9 : AC :=
(.reg [⟨(some 69),(.q (.mv (.t 3))),none,0⟩,
⟨(some 70),(.q (.bin .eql (.p .int) (.t 69) (.c (.int .i64 (.ofNat 0))))),none,0⟩,
⟨(some 71),(.q (.mv (.t 70))),none,0⟩,
⟨(some 72),(.q (.mv (.t 2))),(some (71,true)),0⟩,
⟨(some 73),(.a (.bslice 3 1 2 [(.int .i64 (.ofNat 0))] [(0,(.c (.int .i64 (.ofNat 2)))),(1,(.c (.int .i64 (.ofNat 2))))])),(some (71,true)),0⟩,
⟨(some 74),(.x (.call (.c (.fn 14 [] [])) [(.t 72),(.t 73)])),(some (71,true)),0⟩,
⟨(some 75),(.q (.pick (.t 71) (.t 74) (.c (.bool false)))),none,0⟩,
⟨(some 76),(.q (.mv (.t 75))),none,0⟩,
⟨(some 77),(.q (.mv (.t 5))),(some (76,true)),0⟩,
⟨(some 78),(.q (.bin .eql (.p .int) (.t 77) (.c (.int .i64 (.ofNat 0))))),(some (76,true)),0⟩,
⟨(some 79),(.q (.pick (.t 76) (.t 78) (.c (.bool false)))),none,0⟩,
⟨(some 80),(.q (.mv (.t 79))),none,0⟩,
⟨(some 81),(.q (.mv (.t 4))),(some (80,true)),0⟩,
⟨(some 82),(.a (.bslice 3 1 1 [(.int .i64 (.ofNat 0))] [(0,(.c (.int .i64 (.ofNat 1))))])),(some (80,true)),0⟩,
⟨(some 83),(.x (.call (.c (.fn 14 [] [])) [(.t 81),(.t 82)])),(some (80,true)),0⟩,
⟨(some 84),(.q (.pick (.t 80) (.t 83) (.c (.bool false)))),none,0⟩,
⟨(some 85),(.q (.mv (.t 84))),none,0⟩,
⟨(some 86),(.q (.mv (.t 7))),(some (85,true)),0⟩,
⟨(some 87),(.q (.bin .eql (.p .int) (.t 86) (.c (.int .i64 (.ofNat 0))))),(some (85,true)),0⟩,
⟨(some 88),(.q (.pick (.t 85) (.t 87) (.c (.bool false)))),none,0⟩,
⟨(some 89),(.q (.mv (.t 88))),none,0⟩,
⟨(some 90),(.q (.mv (.t 6))),(some (89,true)),0⟩,
⟨(some 91),(.q (.bin .eql (.p .int) (.t 90) (.c (.int .i64 (.ofNat 1))))),(some (89,true)),0⟩,
⟨(some 92),(.q (.pick (.t 89) (.t 91) (.c (.bool false)))),none,0⟩,
⟨(some 93),(.q (.mv (.t 92))),none,0⟩,
⟨(some 94),(.q (.mv (.t 9))),(some (93,true)),0⟩,
⟨(some 95),(.q (.bin .eql (.p .int) (.t 94) (.c (.int .i64 (.ofNat 2))))),(some (93,true)),0⟩,
⟨(some 96),(.q (.pick (.t 93) (.t 95) (.c (.bool false)))),none,0⟩,
⟨(some 97),(.q (.mv (.t 96))),none,0⟩,
⟨(some 98),(.q (.mv (.t 11))),(some (97,true)),0⟩,
⟨(some 99),(.q (.bin .eql (.p .int) (.t 98) (.c (.int .i64 (.ofNat 2))))),(some (97,true)),0⟩,
⟨(some 100),(.q (.pick (.t 97) (.t 99) (.c (.bool false)))),none,0⟩,
⟨(some 101),(.q (.mv (.t 100))),none,0⟩,
⟨(some 102),(.q (.mv (.t 13))),(some (101,true)),0⟩,
⟨(some 103),(.q (.bin .eql (.p .int) (.t 102) (.c (.int .i64 (.ofNat 0))))),(some (101,true)),0⟩,
⟨(some 104),(.q (.pick (.t 101) (.t 103) (.c (.bool false)))),none,0⟩,
⟨(some 105),(.q (.mv (.t 104))),none,0⟩,
⟨(some 106),(.q (.mv (.t 12))),(some (105,true)),0⟩,
⟨(some 107),(.a (.bslice 3 1 1 [(.int .i64 (.ofNat 0))] [(0,(.c (.int .i64 (.ofNat 4))))])),(some (105,true)),0⟩,
⟨(some 108),(.x (.call (.c (.fn 14 [] [])) [(.t 106),(.t 107)])),(some (105,true)),0⟩,
⟨(some 109),(.q (.pick (.t 105) (.t 108) (.c (.bool false)))),none,0⟩,
⟨(some 14),(.q (.mv (.t 109))),none,0⟩])
noncomputable def s10 : AC :=
(.reg [⟨(some 111),(.q (.ld true 3 (.t 1))),none,0⟩,
⟨(some 112),(.a (.bslice 3 1 2 [(.int .i64 (.ofNat 0))] [(0,(.c (.int .i64 (.ofNat 0)))),(1,(.c (.int .i64 (.ofNat 0))))])),none,0⟩,
⟨(some 113),(.x (.call (.c (.fn 34 [] [])) [(.t 111),(.t 112)])),none,0⟩,
⟨(some 110),(.q (.mv (.t 113))),none,0⟩,
⟨(some 114),(.q (.extract (.t 110) 0)),none,0⟩,
⟨(some 115),(.q (.extract (.t 110) 1)),none,0⟩,
⟨(some 15),(.q (.mv (.t 114))),none,0⟩,
⟨(some 16),(.q (.mv (.t 115))),none,0⟩])
noncomputable def s11 : AC :=
(.reg [⟨(some 117),(.q (.ld true 3 (.t 1))),none,0⟩,
⟨(some 118),(.a (.bslice 3 1 2 [(.int .i64 (.ofNat 0))] [(0,(.c (.int .i64 (.ofNat 1)))),(1,(.c (.int .i64 (.ofNat 0))))])),none,0⟩,
⟨(some 119),(.x (.call (.c (.fn 34 [] [])) [(.t 117),(.t 118)])),none,0⟩,
⟨(some 116),(.q (.mv (.t 119))),none,0⟩,
⟨(some 120),(.q (.extract (.t 116) 0)),none,0⟩,
⟨(some 121),(.q (.extract (.t 116) 1)),none,0⟩,
⟨(some 17),(.q (.mv (.t 120))),none,0⟩,
⟨(some 18),(.q (.mv (.t 121))),none,0⟩])
noncomputable def s12 : AC :=
(.reg [⟨(some 123),(.q (.ld true 3 (.t 1))),none,0⟩,
⟨(some 124),(.a (.bslice 3 1 2 [(.int .i64 (.ofNat 0))] [(0,(.c (.int .i64 (.ofNat 1)))),(1,(.c (.int .i64 (.ofNat 1))))])),none,0⟩,
⟨(some 125),(.x (.call (.c (.fn 34 [] [])) [(.t 123),(.t 124)])),none,0⟩,
⟨(some 122),(.q (.mv (.t 125))),none,0⟩,
⟨(some 126),(.q (.extract (.t 122) 0)),none,0⟩,
⟨(some 127),(.q (.extract (.t 122) 1)),none,0⟩,
⟨(some 19),(.q (.mv (.t 126))),none,0⟩,
⟨(some 20),(.q (.mv (.t 127))),none,0⟩])
noncomputable def s13 : AC :=
(.reg [⟨(some 129),(.q (.ld true 3 (.t 1))),none,0⟩,
⟨(some 130),(.x (.call (.c (.fn 35 [] [])) [(.t 129)])),none,0⟩,
⟨(some 128),(.q (.mv (.t 130))),none,0⟩,
⟨(some 131),(.q (.extract (.t 128) 0)),none,0⟩,
⟨(some 132),(.q (.extract (.t 128) 1)),none,0⟩,
⟨(some 21),(.a (.alloc 63 [.nilsl,.nilsl])),none,0⟩,
⟨none,(.x (.st 2 (.t 21) (.t 131))),none,0⟩,
⟨(some 22),(.q (.mv (.t 132))),none,0⟩])
noncomputable def s14 : AC :=
(.drw [⟨(some 133),(.q (.mv (.t 16))),none,0⟩,
⟨(some 134),(.q (.bin .eql (.p .int) (.t 133) (.c (.int .i64 (.ofNat 0))))),none,1⟩,
⟨(some 135),(.q (.mv (.t 134))),none,3⟩,
⟨(some 136),(.q (.mv (.t 15))),(some (135,true)),7⟩,
⟨(some 137),(.x (.call (.c (.fn 37 [] [])) [(.c (.int .i64 (.ofNat 3))),(.c (.int .i64 (.ofNat 1)))])),(some (135,true)),7⟩,
⟨(some 138),(.x (.call (.c (.fn 37 [] [])) [(.c (.int .i64 (.negSucc 2))),(.c (.int .i64 (.ofNat 1)))])),(some (135,true)),23⟩,
⟨(some 139),(.a (.bslice 43 3 2 [(.bool false),.nilsl,.nilsl] [(0,(.t 137)),(1,(.t 138))])),(some (135,true)),55⟩,
⟨(some 140),(.x (.call (.c (.fn 36 [] [])) [(.t 136),(.t 139)])),(some (135,true)),127⟩,
⟨(some 141),(.q (.pick (.t 135) (.t 140) (.c (.bool false)))),none,255⟩,
⟨(some 142),(.q (.mv (.t 141))),none,511⟩,
⟨(some 143),(.q (.mv (.t 18))),(some (142,true)),1023⟩,
⟨(some 144),(.q (.bin .eql (.p .int) (.t 143) (.c (.int .i64 (.ofNat 0))))),(some (142,true)),2047⟩,
⟨(some 145),(.q (.pick (.t 142) (.t 144) (.c (.bool false)))),none,4095⟩,
⟨(some 146),(.q (.mv (.t 145))),none,8191⟩,
⟨(some 147),(.q (.mv (.t 17))),(some (146,true)),16383⟩,
⟨(some 148),(.x (.call (.c (.fn 37 [] [])) [(.c (.int .i64 (.ofNat 3))),(.c (.int .i64 (.ofNat 1)))])),(some (146,true)),16383⟩,
⟨(some 149),(.x (.call (.c (.fn 37 [] [])) [(.c (.int .i64 (.negSucc 2))),(.c (.int .i64 (.ofNat 1)))])),(some (146,true)),49151⟩,
⟨(some 150),(.a (.bslice 43 3 2 [(.bool false),.nilsl,.nilsl] [(0,(.t 148)),(1,(.t 149))])),(some (146,true)),114687⟩,
⟨(some 151),(.x (.call (.c (.fn 36 [] [])) [(.t 147),(.t 150)])),(some (146,true)),262143⟩,
⟨(some 152),(.q (.pick (.t 146) (.t 151) (.c (.bool false)))),none,524287⟩,
⟨(some 153),(.q (.mv (.t 152))),none,1048575⟩,
⟨(some 154),(.q (.mv (.t 20))),(some (153,true)),2097151⟩,
⟨(some 155),(.q (.bin .eql (.p .int) (.t 154) (.c (.int .i64 (.ofNat 0))))),(some (153,true)),4194303⟩,
⟨(some 156),(.q (.pick (.t 153) (.t 155) (.c (.bool false)))),none,8388607⟩,
⟨(some 157),(.q (.mv (.t 156))),none,16777215⟩,
⟨(some 158),(.q (.mv (.t 19))),(some (157,true)),33554431⟩,
⟨(some 159),(.x (.call (.c (.fn 37 [] [])) [(.c (.int .i64 (.ofNat 1))),(.c (.int .i64 (.ofNat 2)))])),(some (157,true)),33554431⟩,
⟨(some 160),(.x (.call (.c (.fn 37 [] [])) [(.c (.int .i64 (.negSucc 0))),(.c (.int .i64 (.ofNat 2)))])),(some (157,true)),100663295⟩,
⟨(some 161),(.a (.bslice 43 3 2 [(.bool false),.nilsl,.nilsl] [(0,(.t 159)),(1,(.t 160))])),(some (157,true)),234881023⟩,
⟨(some 162),(.x (.call (.c (.fn 36 [] [])) [(.t 158),(.t 161)])),(some (157,true)),536870911⟩,
⟨(some 163),(.q (.pick (.t 157) (.t 162) (.c (.bool false)))),none,1073741823⟩,
⟨(some 164),(.q (.mv (.t 163))),none,2147483647⟩,
⟨(some 165),(.q (.mv (.t 22))),(some (164,true)),4294967295⟩,
⟨(some 166),(.q (.bin .eql (.p .int) (.t 165) (.c (.int .i64 (.ofNat 0))))),(some (164,true)),8589934591⟩,
⟨(some 167),(.q (.pick (.t 164) (.t 166) (.c (.bool false)))),none,17179869183⟩,
⟨(some 168),(.q (.mv (.t 167))),none,34359738367⟩,
⟨(some 169),(.q (.faddr 0 (.t 21))),(some (168,true)),68719476735⟩,
⟨(some 170),(.q (.ld false 1 (.t 169))),(some (168,true)),137438953471⟩,
⟨(some 171),(.a (.bslice 3 1 2 [(.int .i64 (.ofNat 0))] [(0,(.c (.int .i64 (.ofNat 2)))),(1,(.c (.int .i64 (.ofNat 2))))])),(some (168,true)),68719476735⟩,
⟨(some 172),(.x (.call (.c (.fn 14 [] [])) [(.t 170),(.t 171)])),(some (168,true)),549755813887⟩,
⟨(some 173),(.q (.pick (.t 168) (.t 172) (.c (.bool false)))),none,1099511627775⟩,
⟨(some 174),(.q (.mv (.t 173))),none,2199023255551⟩,
⟨(some 175),(.q (.faddr 1 (.t 21))),(some (174,true)),4398046511103⟩,
⟨(some 176),(.q (.ld false 1 (.t 175))),(some (174,true)),8796093022207⟩,
⟨(some 177),(.q (.lenSl (.t 176))),(some (174,true)),17592186044415⟩,
⟨(some 178),(.q (.bin .eql (.p .int) (.t 177) (.c (.int .i64 (.ofNat 2))))),(some (174,true)),35184372088831⟩,
⟨(some 179),(.q (.pick (.t 174) (.t 178) (.c (.bool false)))),none,70368744177663⟩,
⟨(some 180),(.q (.mv (.t 179))),none,140737488355327⟩,
⟨(some 181),(.q (.faddr 1 (.t 21))),(some (180,true)),281474976710655⟩,
⟨(some 182),(.q (.ld false 1 (.t 181))),(some (180,true)),562949953421311⟩,
⟨(some 183),(.q (.iaddr (.slice 1) (.t 182) (.c (.int .i64 (.ofNat 0))))),(some (180,true)),1125899906842623⟩,
⟨(some 184),(.q (.ld false 1 (.t 183))),(some (180,true)),2251799813685247⟩,
⟨(some 185),(.x (.call (.c (.fn 37 [] [])) [(.c (.int .i64 (.ofNat 3))),(.c (.int .i64 (.ofNat 1)))])),(some (180,true)),281474976710655⟩,
⟨(some 186),(.x (.call (.c (.fn 37 [] [])) [(.c (.int .i64 (.ofNat 3))),(.c (.int .i64 (.ofNat 2)))])),(some (180,true)),4785074604081151⟩,
⟨(some 187),(.x (.call (.c (.fn 37 [] [])) [(.c (.int .i64 (.ofNat 3))),(.c (.int .i64 (.ofNat 1)))])),(some (180,true)),13792273858822143⟩,
⟨(some 188),(.x (.call (.c (.fn 37 [] [])) [(.c (.int .i64 (.ofNat 1))),(.c (.int .i64 (.ofNat 2)))])),(some (180,true)),31806672368304127⟩,
⟨(some 189),(.a (.bslice 43 3 4 [(.bool false),.nilsl,.nilsl] [(0,(.t 185)),(1,(.t 186)),(2,(.t 187)),(3,(.t 188))])),(some (180,true)),67835469387268095⟩,
⟨(some 190),(.x (.call (.c (.fn 36 [] [])) [(.t 184),(.t 189)])),(some (180,true)),144115188075855871⟩,
⟨(some 191),(.q (.pick (.t 180) (.t 190) (.c (.bool false)))),none,288230376151711743⟩,
⟨(some 192),(.q (.mv (.t 191))),none,576460752303423487⟩,
⟨(some 193),(.q (.ld true 2 (.t 21))),(some (192,true)),1152921504606846975⟩,
⟨(some 194),(.x (.call (.c (.fn 38 [] [])) [(.t 193)])),(some (192,true)),2305843009213693951⟩,
⟨(some 195),(.q (.bin .eql (.p .int) (.t 194) (.c (.int .i64 (.ofNat 0))))),(some (192,true)),4611686018427387903⟩,
⟨(some 196),(.q (.pick (.t 192) (.t 195) (.c (.bool false)))),none,9223372036854775807⟩,
⟨(some 23),(.q (.mv (.t 196))),none,18446744073709551615⟩])
noncomputable def s15 : AC :=
(.reg [⟨(some 198),(.a (.bslice 3 1 2 [(.int .i64 (.ofNat 0))] [(0,(.c (.int .i64 (.ofNat 2)))),(1,(.c (.int .i64 (.ofNat 3))))])),none,0⟩,
⟨(some 199),(.x (.call (.c (.fn 39 [] [])) [(.t 198),(.c (.int .i64 (.ofNat 5)))])),none,0⟩,
⟨(some 197),(.q (.mv (.t 199))),none,0⟩,
⟨(some 200),(.q (.extract (.t 197) 0)),none,0⟩,
⟨(some 201),(.q (.extract (.t 197) 1)),none,0⟩,
⟨(some 24),(.q (.mv (.t 200))),none,0⟩,
⟨(some 25),(.q (.mv (.t 201))),none,0⟩])
noncomputable def s16 : AC :=
(.reg [⟨(some 203),(.a (.bslice 3 1 2 [(.int .i64 (.ofNat 0))] [(0,(.c (.int .i64 (.ofNat 2)))),(1,(.c (.int .i64 (.ofNat 3))))])),none,0⟩,
⟨(some 204),(.a (.bslice 3 1 2 [(.int .i64 (.ofNat 0))] [(0,(.c (.int .i64 (.ofNat 1)))),(1,(.c (.int .i64 (.ofNat 3))))])),none,0⟩,
⟨(some 205),(.x (.call (.c (.fn 40 [] [])) [(.t 203),(.t 204)])),none,0⟩,
⟨(some 202),(.q (.mv (.t 205))),none,0⟩,
⟨(some 206),(.q (.extract (.t 202) 0)),none,0⟩,
⟨(some 207),(.q (.extract (.t 202) 1)),none,0⟩,
⟨(some 26),(.q (.mv (.t 206))),none,0⟩,
⟨(some 27),(.q (.mv (.t 207))),none,0⟩])
noncomputable def s17 : AC :=
(.reg [⟨(some 209),(.a (.bslice 3 1 2 [(.int .i64 (.ofNat 0))] [(0,(.c (.int .i64 (.ofNat 2)))),(1,(.c (.int .i64 (.ofNat 3))))])),none,0⟩,
⟨(some 210),(.x (.call (.c (.fn 39 [] [])) [(.t 209),(.c (.int .i64 (.ofNat 6)))])),none,0⟩,
⟨(some 208),(.q (.mv (.t 210))),none,0⟩,
⟨(some 211),(.q (.extract (.t 208) 0)),none,0⟩,
⟨(some 212),(.q (.extract (.t 208) 1)),none,0⟩,
⟨(some 28),(.q (.mv (.t 211))),none,0⟩,
⟨(some 29),(.q (.mv (.t 212))),none,0⟩])
noncomputable def s18 : AC :=
(.reg [⟨(some 214),(.a (.bslice 3 1 1 [(.int .i64 (.ofNat 0))] [(0,(.c (.int .i64 (.ofNat 1001))))])),none,0⟩,
⟨(some 215),(.a (.bslice 3 1 1 [(.int .i64 (.ofNat 0))] [(0,(.c (.int .i64 (.ofNat 0))))])),none,0⟩,
⟨(some 216),(.x (.call (.c (.fn 40 [] [])) [(.t 214),(.t 215)])),none,0⟩,
⟨(some 213),(.q (.mv (.t 216))),none,0⟩,
⟨(some 217),(.q (.extract (.t 213) 0)),none,0⟩,
⟨(some 218),(.q (.extract (.t 213) 1)),none,0⟩,
⟨(some 30),(.q (.mv (.t 217))),none,0⟩,
⟨(some 31),(.q (.mv (.t 218))),none,0⟩])
noncomputable def s19 : AC :=
(.reg [⟨(some 220),(.a (.bslice 3 1 3 [(.int .i64 (.ofNat 0))] [(0,(.c (.int .i64 (.ofNat 10)))),(1,(.c (.int .i64 (.ofNat 10)))),(2,(.c (.int .i64 (.ofNat 10))))])),none,0⟩,
⟨(some 221),(.a (.bslice 3 1 3 [(.int .i64 (.ofNat 0))] [(0,(.c (.int .i64 (.ofNat 9)))),(1,(.c (.int .i64 (.ofNat 9)))),(2,(.c (.int .i64 (.ofNat 9))))])),none,0⟩,
⟨(some 222),(.x (.call (.c (.fn 40 [] [])) [(.t 220),(.t 221)])),none,0⟩,
⟨(some 219),(.q (.mv (.t 222))),none,0⟩,
⟨(some 223),(.q (.extract (.t 219) 0)),none,0⟩,
⟨(some 224),(.q (.extract (.t 219) 1)),none,0⟩,
⟨(some 32),(.q (.mv (.t 223))),none,0⟩,
⟨(some 33),(.q (.mv (.t 224))),none,0⟩])
noncomputable def s20 : AC :=
(.reg [⟨(some 225),(.q (.mv (.t 14))),none,0⟩,
⟨(some 226),(.q (.mv (.t 225))),none,0⟩,
⟨(some 227),(.q (.mv (.t 23))),(some (226,true)),0⟩,
⟨(some 228),(.q (.pick (.t 226) (.t 227) (.c (.bool false)))),none,0⟩,
⟨(some 229),(.q (.mv (.t 228))),none,0⟩,
⟨(some 230),(.q (.mv (.t 25))),(some (229,true)),0⟩,
⟨(some 231),(.q (.bin .eql (.p .int) (.t 230) (.c (.int .i64 (.ofNat 0))))),(some (229,true)),0⟩,
⟨(some 232),(.q (.pick (.t 229) (.t 231) (.c (.bool false)))),none,0⟩,
⟨(some 233),(.q (.mv (.t 232))),none,0⟩,
⟨(some 234),(.q (.mv (.t 24))),(some (233,true)),0⟩,
⟨(some 235),(.a (.bslice 3 1 2 [(.int .i64 (.ofNat 0))] [(0,(.c (.int .i64 (.ofNat 1)))),(1,(.c (.int .i64 (.ofNat 2))))])),(some (233,true)),0⟩,
⟨(some 236),(.x (.call (.c (.fn 14 [] [])) [(.t 234),(.t 235)])),(some (233,true)),0⟩,
⟨(some 237),(.q (.pick (.t 233) (.t 236) (.c (.bool false)))),none,0⟩,
⟨(some 238),(.q (.mv (.t 237))),none,0⟩,
⟨(some 239),(.q (.mv (.t 27))),(some (238,true)),0⟩,
⟨(some 240),(.q (.bin .eql (.p .int) (.t 239) (.c (.int .i64 (.ofNat 2))))),(some (238,true)),0⟩,
⟨(some 241),(.q (.pick (.t 238) (.t 240) (.c (.bool false)))),none,0⟩,
⟨(some 242),(.q (.mv (.t 241))),none,0⟩,
⟨(some 243),(.q (.mv (.t 29))),(some (242,true)),0⟩,
⟨(some 244),(.q (.bin .eql (.p .int) (.t 243) (.c (.int .i64 (.ofNat 2))))),(some (242,true)),0⟩,
⟨(some 245),(.q (.pick (.t 242) (.t 244) (.c (.bool false)))),none,0⟩,
⟨(some 246),(.q (.mv (.t 245))),none,0⟩,
⟨(some 247),(.q (.mv (.t 31))),(some (246,true)),0⟩,
⟨(some 248),(.q (.bin .eql (.p .int) (.t 247) (.c (.int .i64 (.ofNat 5))))),(some (246,true)),0⟩,
⟨(some 249),(.q (.pick (.t 246) (.t 248) (.c (.bool false)))),none,0⟩,
⟨(some 250),(.q (.mv (.t 249))),none,0⟩,
⟨(some 251),(.q (.mv (.t 33))),(some (250,true)),0⟩,
⟨(some 252),(.q (.bin .eql (.p .int) (.t 251) (.c (.int .i64 (.ofNat 0))))),(some (250,true)),0⟩,
⟨(some 253),(.q (.pick (.t 250) (.t 252) (.c (.bool false)))),none,0⟩,
⟨(some 254),(.q (.mv (.t 253))),none,0⟩,
⟨(some 255),(.q (.mv (.t 32))),(some (254,true)),0⟩,
⟨(some 256),(.q (.bin .eql (.p .int) (.t 255) (.c (.int .i64 (.ofNat 999))))),(some (254,true)),0⟩,
⟨(some 257),(.q (.pick (.t 254) (.t 256) (.c (.bool false)))),none,0⟩,
⟨(some 258),(.q (.mv (.t 257))),none,0⟩,
⟨(some 259),(.q (.build [.nilsl,.nilsl] [])),(some (258,true)),0⟩,
⟨(some 260),(.x (.call (.c (.fn 38 [] [])) [(.t 259)])),(some (258,true)),0⟩,
⟨(some 261),(.q (.bin .eql (.p .int) (.t 260) (.c (.int .i64 (.ofNat 2))))),(some (258,true)),0⟩,
⟨(some 262),(.q (.pick (.t 258) (.t 261) (.c (.bool false)))),none,0⟩,
⟨(some 263),(.q (.mv (.t 262))),none,0⟩,
⟨(some 264),(.a (.bslice 3 1 1 [(.int .i64 (.ofNat 0))] [(0,(.c (.int .i64 (.ofNat 1))))])),(some (263,true)),0⟩,
⟨(some 265),(.q (.build [.nilsl,.nilsl] [(0,1,(.t 264))])),(some (263,true)),0⟩,
⟨(some 266),(.x (.call (.c (.fn 38 [] [])) [(.t 265)])),(some (263,true)),0⟩,
⟨(some 267),(.q (.bin .eql (.p .int) (.t 266) (.c (.int .i64 (.ofNat 10))))),(some (263,true)),0⟩,
⟨(some 268),(.q (.pick (.t 263) (.t 267) (.c (.bool false)))),none,0⟩,
⟨(some 269),(.q (.mv (.t 268))),none,0⟩,
⟨(some 270),(.a (.bslice 3 1 1 [(.int .i64 (.ofNat 0))] [(0,(.c (.int .i64 (.ofNat 1))))])),(some (269,true)),0⟩,
⟨(some 271),(.q (.build [(.bool false),.nilsl,.nilsl] [])),(some (269,true)),0⟩,
⟨(some 272),(.a (.bslice 43 3 1 [(.bool false),.nilsl,.nilsl] [(0,(.t 271))])),(some (269,true)),0⟩,
⟨(some 273),(.a (.bslice 35 1 1 [.nilsl] [(0,(.t 272))])),(some (269,true)),0⟩,
⟨(some 274),(.q (.build [.nilsl,.nilsl] [(0,1,(.t 270)),(1,1,(.t 273))])),(some (269,true)),0⟩,
⟨(some 275),(.x (.call (.c (.fn 38 [] [])) [(.t 274)])),(some (269,true)),0⟩,
⟨(some 276),(.q (.bin .eql (.p .int) (.t 275) (.c (.int .i64 (.ofNat 6))))),(some (269,true)),0⟩,
⟨(some 277),(.q (.pick (.t 269) (.t 276) (.c (.bool false)))),none,0⟩,
⟨(some 0),(.q (.mv (.t 277))),none,0⟩])
noncomputable def s21 : AC :=
.ret
theorem body : cFn Tryz.prog Tryz.f5 = some ⟨278, [(.t 0)], (.seq s0 (.seq s1 (.seq s2 (.seq s3 (.seq s4 (.seq s5 (.seq s6 (.seq s7 (.seq s8 (.seq s9 (.seq s10 (.seq s11 (.seq s12 (.seq s13 (.seq s14 (.seq s15 (.seq s16 (.seq s17 (.seq s18 (.seq s19 (.seq s20 s21)))))))))))))))))))))⟩ := by kernel_rfl
end Go.Proofs.YtopemogpgppjlaaGreatDoor.normalNames
