/- RatKnown: the table of functions; the statements of the law. -/
import Derived.Test.YtopemogpgppjlaaDoorRatKnownIr0
import Derived.Test.YtopemogpgppjlaaDoorRatKnownIr1
import Derived.Test.YtopemogpgppjlaaDoorRatKnownIr2
import Derived.Test.YtopemogpgppjlaaDoorRatKnownIr3
namespace Go.Proofs.YtopemogpgppjlaaDoor.ratKnown
open Go.Ev
set_option maxRecDepth 100000
noncomputable def fnsL : List (Nat × AFn) := [(5, a5), (6, a6), (7, a7), (8, a8), (9, a9), (10, a10), (11, a11), (12, a12), (13, a13), (14, a14), (15, a15), (16, a16), (17, a17), (18, a18), (19, a19), (30, a30), (31, a31), (32, a32), (33, a33), (34, a34), (35, a35), (36, a36), (37, a37), (38, a38), (39, a39), (40, a40), (41, a41), (42, a42), (43, a43), (44, a44), (45, a45), (46, a46), (47, a47), (48, a48), (49, a49), (50, a50), (51, a51), (52, a52), (53, a53), (54, a54), (77, a77), (78, a78), (79, a79), (80, a80), (81, a81), (82, a82), (83, a83), (84, a84), (85, a85), (86, a86), (87, a87), (88, a88), (89, a89), (90, a90), (91, a91), (92, a92), (93, a93), (94, a94), (95, a95), (96, a96), (97, a97), (99, a99), (100, a100), (101, a101), (102, a102), (103, a103), (104, a104), (124, a124), (125, a125), (126, a126), (127, a127), (128, a128), (129, a129), (130, a130), (131, a131), (132, a132), (133, a133), (134, a134), (135, a135), (136, a136), (147, a147), (148, a148), (149, a149), (150, a150), (151, a151), (159, a159), (161, a161), (162, a162), (164, a164)]
theorem rows : ∀ p ∈ fnsL, Row Tryd.prog p := by
  unfold fnsL
  refine List.forall_mem_cons.2 ⟨row5, ?_⟩
  refine List.forall_mem_cons.2 ⟨row6, ?_⟩
  refine List.forall_mem_cons.2 ⟨row7, ?_⟩
  refine List.forall_mem_cons.2 ⟨row8, ?_⟩
  refine List.forall_mem_cons.2 ⟨row9, ?_⟩
  refine List.forall_mem_cons.2 ⟨row10, ?_⟩
  refine List.forall_mem_cons.2 ⟨row11, ?_⟩
  refine List.forall_mem_cons.2 ⟨row12, ?_⟩
  refine List.forall_mem_cons.2 ⟨row13, ?_⟩
  refine List.forall_mem_cons.2 ⟨row14, ?_⟩
  refine List.forall_mem_cons.2 ⟨row15, ?_⟩
  refine List.forall_mem_cons.2 ⟨row16, ?_⟩
  refine List.forall_mem_cons.2 ⟨row17, ?_⟩
  refine List.forall_mem_cons.2 ⟨row18, ?_⟩
  refine List.forall_mem_cons.2 ⟨row19, ?_⟩
  refine List.forall_mem_cons.2 ⟨row30, ?_⟩
  refine List.forall_mem_cons.2 ⟨row31, ?_⟩
  refine List.forall_mem_cons.2 ⟨row32, ?_⟩
  refine List.forall_mem_cons.2 ⟨row33, ?_⟩
  refine List.forall_mem_cons.2 ⟨row34, ?_⟩
  refine List.forall_mem_cons.2 ⟨row35, ?_⟩
  refine List.forall_mem_cons.2 ⟨row36, ?_⟩
  refine List.forall_mem_cons.2 ⟨row37, ?_⟩
  refine List.forall_mem_cons.2 ⟨row38, ?_⟩
  refine List.forall_mem_cons.2 ⟨row39, ?_⟩
  refine List.forall_mem_cons.2 ⟨row40, ?_⟩
  refine List.forall_mem_cons.2 ⟨row41, ?_⟩
  refine List.forall_mem_cons.2 ⟨row42, ?_⟩
  refine List.forall_mem_cons.2 ⟨row43, ?_⟩
  refine List.forall_mem_cons.2 ⟨row44, ?_⟩
  refine List.forall_mem_cons.2 ⟨row45, ?_⟩
  refine List.forall_mem_cons.2 ⟨row46, ?_⟩
  refine List.forall_mem_cons.2 ⟨row47, ?_⟩
  refine List.forall_mem_cons.2 ⟨row48, ?_⟩
  refine List.forall_mem_cons.2 ⟨row49, ?_⟩
  refine List.forall_mem_cons.2 ⟨row50, ?_⟩
  refine List.forall_mem_cons.2 ⟨row51, ?_⟩
  refine List.forall_mem_cons.2 ⟨row52, ?_⟩
  refine List.forall_mem_cons.2 ⟨row53, ?_⟩
  refine List.forall_mem_cons.2 ⟨row54, ?_⟩
  refine List.forall_mem_cons.2 ⟨row77, ?_⟩
  refine List.forall_mem_cons.2 ⟨row78, ?_⟩
  refine List.forall_mem_cons.2 ⟨row79, ?_⟩
  refine List.forall_mem_cons.2 ⟨row80, ?_⟩
  refine List.forall_mem_cons.2 ⟨row81, ?_⟩
  refine List.forall_mem_cons.2 ⟨row82, ?_⟩
  refine List.forall_mem_cons.2 ⟨row83, ?_⟩
  refine List.forall_mem_cons.2 ⟨row84, ?_⟩
  refine List.forall_mem_cons.2 ⟨row85, ?_⟩
  refine List.forall_mem_cons.2 ⟨row86, ?_⟩
  refine List.forall_mem_cons.2 ⟨row87, ?_⟩
  refine List.forall_mem_cons.2 ⟨row88, ?_⟩
  refine List.forall_mem_cons.2 ⟨row89, ?_⟩
  refine List.forall_mem_cons.2 ⟨row90, ?_⟩
  refine List.forall_mem_cons.2 ⟨row91, ?_⟩
  refine List.forall_mem_cons.2 ⟨row92, ?_⟩
  refine List.forall_mem_cons.2 ⟨row93, ?_⟩
  refine List.forall_mem_cons.2 ⟨row94, ?_⟩
  refine List.forall_mem_cons.2 ⟨row95, ?_⟩
  refine List.forall_mem_cons.2 ⟨row96, ?_⟩
  refine List.forall_mem_cons.2 ⟨row97, ?_⟩
  refine List.forall_mem_cons.2 ⟨row99, ?_⟩
  refine List.forall_mem_cons.2 ⟨row100, ?_⟩
  refine List.forall_mem_cons.2 ⟨row101, ?_⟩
  refine List.forall_mem_cons.2 ⟨row102, ?_⟩
  refine List.forall_mem_cons.2 ⟨row103, ?_⟩
  refine List.forall_mem_cons.2 ⟨row104, ?_⟩
  refine List.forall_mem_cons.2 ⟨row124, ?_⟩
  refine List.forall_mem_cons.2 ⟨row125, ?_⟩
  refine List.forall_mem_cons.2 ⟨row126, ?_⟩
  refine List.forall_mem_cons.2 ⟨row127, ?_⟩
  refine List.forall_mem_cons.2 ⟨row128, ?_⟩
  refine List.forall_mem_cons.2 ⟨row129, ?_⟩
  refine List.forall_mem_cons.2 ⟨row130, ?_⟩
  refine List.forall_mem_cons.2 ⟨row131, ?_⟩
  refine List.forall_mem_cons.2 ⟨row132, ?_⟩
  refine List.forall_mem_cons.2 ⟨row133, ?_⟩
  refine List.forall_mem_cons.2 ⟨row134, ?_⟩
  refine List.forall_mem_cons.2 ⟨row135, ?_⟩
  refine List.forall_mem_cons.2 ⟨row136, ?_⟩
  refine List.forall_mem_cons.2 ⟨row147, ?_⟩
  refine List.forall_mem_cons.2 ⟨row148, ?_⟩
  refine List.forall_mem_cons.2 ⟨row149, ?_⟩
  refine List.forall_mem_cons.2 ⟨row150, ?_⟩
  refine List.forall_mem_cons.2 ⟨row151, ?_⟩
  refine List.forall_mem_cons.2 ⟨row159, ?_⟩
  refine List.forall_mem_cons.2 ⟨row161, ?_⟩
  refine List.forall_mem_cons.2 ⟨row162, ?_⟩
  refine List.forall_mem_cons.2 ⟨row164, ?_⟩
  intro p hp
  cases hp
theorem knows : Known Tryd.prog (table fnsL) := known_table (by kernel_rfl) rows
noncomputable def tabs : List (Nat × List AV) := [(1, [.int .u8 (.ofNat 0), .int .u8 (.ofNat 1), .int .u8 (.ofNat 56), .int .u8 (.ofNat 2), .int .u8 (.ofNat 57), .int .u8 (.ofNat 49), .int .u8 (.ofNat 28), .int .u8 (.ofNat 3), .int .u8 (.ofNat 61), .int .u8 (.ofNat 58), .int .u8 (.ofNat 42), .int .u8 (.ofNat 50), .int .u8 (.ofNat 38), .int .u8 (.ofNat 29), .int .u8 (.ofNat 17), .int .u8 (.ofNat 4), .int .u8 (.ofNat 62), .int .u8 (.ofNat 47), .int .u8 (.ofNat 59), .int .u8 (.ofNat 36), .int .u8 (.ofNat 45), .int .u8 (.ofNat 43), .int .u8 (.ofNat 51), .int .u8 (.ofNat 22), .int .u8 (.ofNat 53), .int .u8 (.ofNat 39), .int .u8 (.ofNat 33), .int .u8 (.ofNat 30), .int .u8 (.ofNat 24), .int .u8 (.ofNat 18), .int .u8 (.ofNat 12), .int .u8 (.ofNat 5), .int .u8 (.ofNat 63), .int .u8 (.ofNat 55), .int .u8 (.ofNat 48), .int .u8 (.ofNat 27), .int .u8 (.ofNat 60), .int .u8 (.ofNat 41), .int .u8 (.ofNat 37), .int .u8 (.ofNat 16), .int .u8 (.ofNat 46), .int .u8 (.ofNat 35), .int .u8 (.ofNat 44), .int .u8 (.ofNat 21), .int .u8 (.ofNat 52), .int .u8 (.ofNat 32), .int .u8 (.ofNat 23), .int .u8 (.ofNat 11), .int .u8 (.ofNat 54), .int .u8 (.ofNat 26), .int .u8 (.ofNat 40), .int .u8 (.ofNat 15), .int .u8 (.ofNat 34), .int .u8 (.ofNat 20), .int .u8 (.ofNat 31), .int .u8 (.ofNat 10), .int .u8 (.ofNat 25), .int .u8 (.ofNat 14), .int .u8 (.ofNat 19), .int .u8 (.ofNat 9), .int .u8 (.ofNat 13), .int .u8 (.ofNat 8), .int .u8 (.ofNat 7), .int .u8 (.ofNat 6)]), (0, [.int .i64 (.negSucc 0), .int .i64 (.ofNat 0), .int .i64 (.ofNat 1)])]
noncomputable def s0 : AC :=
(.reg [⟨(some 0),(.q (.mv (.c (.bool false)))),none,0⟩])
noncomputable def s1 : AC :=
(.reg [⟨(some 13),(.x (.call (.c (.fn 5 [] [])) [(.c (.int .i64 (.ofNat 6))),(.c (.int .i64 (.negSucc 3)))])),none,0⟩,
⟨(some 12),(.q (.mv (.t 13))),none,0⟩,
⟨(some 14),(.q (.extract (.t 12) 0)),none,0⟩,
⟨(some 15),(.q (.extract (.t 12) 1)),none,0⟩,
⟨(some 1),(.a (.alloc 25 [(.bool false),.nilsl,.nilsl])),none,0⟩,
⟨none,(.x (.st 3 (.t 1) (.t 14))),none,0⟩,
⟨(some 2),(.q (.mv (.t 15))),none,0⟩])
noncomputable def s2 : AC :=
(.reg [⟨(some 17),(.x (.call (.c (.fn 5 [] [])) [(.c (.int .i64 (.ofNat 0))),(.c (.int .i64 (.ofNat 5)))])),none,0⟩,
⟨(some 16),(.q (.mv (.t 17))),none,0⟩,
⟨(some 18),(.q (.extract (.t 16) 0)),none,0⟩,
⟨(some 19),(.q (.extract (.t 16) 1)),none,0⟩,
⟨(some 3),(.a (.alloc 25 [(.bool false),.nilsl,.nilsl])),none,0⟩,
⟨none,(.x (.st 3 (.t 3) (.t 18))),none,0⟩,
⟨(some 4),(.q (.mv (.t 19))),none,0⟩])
noncomputable def s3 : AC :=
(.reg [⟨(some 21),(.x (.call (.c (.fn 5 [] [])) [(.c (.int .i64 (.ofNat 1))),(.c (.int .i64 (.ofNat 0)))])),none,0⟩,
⟨(some 20),(.q (.mv (.t 21))),none,0⟩,
⟨(some 22),(.q (.extract (.t 20) 0)),none,0⟩,
⟨(some 23),(.q (.extract (.t 20) 1)),none,0⟩,
⟨(some 5),(.a (.alloc 25 [(.bool false),.nilsl,.nilsl])),none,0⟩,
⟨none,(.x (.st 3 (.t 5) (.t 22))),none,0⟩,
⟨(some 6),(.q (.mv (.t 23))),none,0⟩])
noncomputable def s4 : AC :=
(.reg [⟨(some 25),(.a (.bslice 30 1 1 [(.int .u32 (.ofNat 0))] [(0,(.c (.int .u32 (.ofNat 7))))])),none,0⟩,
⟨(some 26),(.x (.call (.c (.fn 6 [] [])) [(.c (.bool true)),(.c .nilsl),(.t 25)])),none,0⟩,
⟨(some 24),(.q (.mv (.t 26))),none,0⟩,
⟨(some 27),(.q (.extract (.t 24) 0)),none,0⟩,
⟨(some 28),(.q (.extract (.t 24) 1)),none,0⟩,
⟨(some 7),(.a (.alloc 25 [(.bool false),.nilsl,.nilsl])),none,0⟩,
⟨none,(.x (.st 3 (.t 7) (.t 27))),none,0⟩,
⟨(some 8),(.q (.mv (.t 28))),none,0⟩])
noncomputable def s5 : AC :=
(.seq (.reg [⟨(some 29),(.q (.ld true 3 (.t 1))),none,0⟩,
⟨(some 30),(.q (.mv (.t 2))),none,0⟩,
⟨(some 31),(.x (.call (.c (.fn 7 [] [])) [(.t 29),(.t 30),(.c (.int .i64 (.negSucc 2))),(.c (.int .i64 (.ofNat 2)))])),none,0⟩,
⟨(some 32),(.q (.un .not (.t 31))),none,0⟩,
⟨(some 33),(.q (.mv (.t 32))),none,0⟩,
⟨(some 34),(.q (.ld true 3 (.t 3))),(some (33,false)),0⟩,
⟨(some 35),(.q (.mv (.t 4))),(some (33,false)),0⟩,
⟨(some 36),(.x (.call (.c (.fn 7 [] [])) [(.t 34),(.t 35),(.c (.int .i64 (.ofNat 0))),(.c (.int .i64 (.ofNat 1)))])),(some (33,false)),0⟩,
⟨(some 37),(.q (.un .not (.t 36))),(some (33,false)),0⟩,
⟨(some 38),(.q (.pick (.t 33) (.c (.bool true)) (.t 37))),none,0⟩,
⟨(some 39),(.q (.mv (.t 38))),none,0⟩,
⟨(some 40),(.q (.mv (.t 6))),(some (39,false)),0⟩,
⟨(some 41),(.q (.bin .neq (.p .int) (.t 40) (.c (.int .i64 (.ofNat 6))))),(some (39,false)),0⟩,
⟨(some 42),(.q (.pick (.t 39) (.c (.bool true)) (.t 41))),none,0⟩,
⟨(some 43),(.q (.mv (.t 42))),none,0⟩,
⟨(some 44),(.q (.ld true 3 (.t 7))),(some (43,false)),0⟩,
⟨(some 45),(.q (.mv (.t 8))),(some (43,false)),0⟩,
⟨(some 46),(.x (.call (.c (.fn 7 [] [])) [(.t 44),(.t 45),(.c (.int .i64 (.ofNat 0))),(.c (.int .i64 (.ofNat 1)))])),(some (43,false)),0⟩,
⟨(some 47),(.q (.un .not (.t 46))),(some (43,false)),0⟩,
⟨(some 48),(.q (.pick (.t 43) (.c (.bool true)) (.t 47))),none,0⟩])
(.cond (.t 48) (.seq (.reg [⟨(some 0),(.q (.mv (.c (.bool false)))),none,0⟩])
.ret) .skip))
noncomputable def s6 : AC :=
(.reg [⟨(some 50),(.x (.call (.c (.fn 9 [] [])) [(.c (.int .i64 (.ofNat 1))),(.c (.int .i64 (.ofNat 2)))])),none,0⟩,
⟨(some 51),(.x (.call (.c (.fn 9 [] [])) [(.c (.int .i64 (.ofNat 1))),(.c (.int .i64 (.ofNat 3)))])),none,0⟩,
⟨(some 52),(.x (.call (.c (.fn 8 [] [])) [(.t 50),(.t 51)])),none,0⟩,
⟨(some 49),(.q (.mv (.t 52))),none,0⟩,
⟨(some 53),(.q (.extract (.t 49) 0)),none,0⟩,
⟨(some 54),(.q (.extract (.t 49) 1)),none,0⟩,
⟨none,(.x (.st 3 (.t 1) (.t 53))),none,0⟩,
⟨(some 2),(.q (.mv (.t 54))),none,0⟩])
noncomputable def s7 : AC :=
(.reg [⟨(some 56),(.x (.call (.c (.fn 9 [] [])) [(.c (.int .i64 (.ofNat 1))),(.c (.int .i64 (.ofNat 2)))])),none,0⟩,
⟨(some 57),(.x (.call (.c (.fn 9 [] [])) [(.c (.int .i64 (.negSucc 0))),(.c (.int .i64 (.ofNat 4)))])),none,0⟩,
⟨(some 58),(.x (.call (.c (.fn 10 [] [])) [(.t 56),(.t 57)])),none,0⟩,
⟨(some 55),(.q (.mv (.t 58))),none,0⟩,
⟨(some 59),(.q (.extract (.t 55) 0)),none,0⟩,
⟨(some 60),(.q (.extract (.t 55) 1)),none,0⟩,
⟨none,(.x (.st 3 (.t 3) (.t 59))),none,0⟩,
⟨(some 4),(.q (.mv (.t 60))),none,0⟩])
noncomputable def s8 : AC :=
(.reg [⟨(some 62),(.x (.call (.c (.fn 9 [] [])) [(.c (.int .i64 (.ofNat 1))),(.c (.int .i64 (.ofNat 2)))])),none,0⟩,
⟨(some 63),(.x (.call (.c (.fn 9 [] [])) [(.c (.int .i64 (.ofNat 2))),(.c (.int .i64 (.ofNat 3)))])),none,0⟩,
⟨(some 64),(.x (.call (.c (.fn 11 [] [])) [(.t 62),(.t 63)])),none,0⟩,
⟨(some 61),(.q (.mv (.t 64))),none,0⟩,
⟨(some 65),(.q (.extract (.t 61) 0)),none,0⟩,
⟨(some 66),(.q (.extract (.t 61) 1)),none,0⟩,
⟨(some 9),(.q (.mv (.t 65))),none,0⟩,
⟨(some 6),(.q (.mv (.t 66))),none,0⟩])
noncomputable def s9 : AC :=
(.seq (.reg [⟨(some 67),(.q (.ld true 3 (.t 1))),none,0⟩,
⟨(some 68),(.q (.mv (.t 2))),none,0⟩,
⟨(some 69),(.x (.call (.c (.fn 7 [] [])) [(.t 67),(.t 68),(.c (.int .i64 (.ofNat 1))),(.c (.int .i64 (.ofNat 6)))])),none,0⟩,
⟨(some 70),(.q (.un .not (.t 69))),none,0⟩,
⟨(some 71),(.q (.mv (.t 70))),none,0⟩,
⟨(some 72),(.q (.ld true 3 (.t 3))),(some (71,false)),0⟩,
⟨(some 73),(.q (.mv (.t 4))),(some (71,false)),0⟩,
⟨(some 74),(.x (.call (.c (.fn 7 [] [])) [(.t 72),(.t 73),(.c (.int .i64 (.negSucc 1))),(.c (.int .i64 (.ofNat 1)))])),(some (71,false)),0⟩,
⟨(some 75),(.q (.un .not (.t 74))),(some (71,false)),0⟩,
⟨(some 76),(.q (.pick (.t 71) (.c (.bool true)) (.t 75))),none,0⟩,
⟨(some 77),(.q (.mv (.t 76))),none,0⟩,
⟨(some 78),(.q (.mv (.t 9))),(some (77,false)),0⟩,
⟨(some 79),(.q (.bin .neq (.p .int) (.t 78) (.c (.int .i64 (.negSucc 0))))),(some (77,false)),0⟩,
⟨(some 80),(.q (.pick (.t 77) (.c (.bool true)) (.t 79))),none,0⟩,
⟨(some 81),(.q (.mv (.t 80))),none,0⟩,
⟨(some 82),(.q (.mv (.t 6))),(some (81,false)),0⟩,
⟨(some 83),(.q (.bin .neq (.p .int) (.t 82) (.c (.int .i64 (.ofNat 0))))),(some (81,false)),0⟩,
⟨(some 84),(.q (.pick (.t 81) (.c (.bool true)) (.t 83))),none,0⟩])
(.cond (.t 84) (.seq (.reg [⟨(some 0),(.q (.mv (.c (.bool false)))),none,0⟩])
.ret) .skip))
noncomputable def s10 : AC :=
(.reg [⟨(some 86),(.x (.call (.c (.fn 9 [] [])) [(.c (.int .i64 (.negSucc 2))),(.c (.int .i64 (.ofNat 2)))])),none,0⟩,
⟨(some 87),(.x (.call (.c (.fn 12 [] [])) [(.t 86)])),none,0⟩,
⟨(some 85),(.q (.mv (.t 87))),none,0⟩,
⟨(some 88),(.q (.extract (.t 85) 0)),none,0⟩,
⟨(some 89),(.q (.extract (.t 85) 1)),none,0⟩,
⟨none,(.x (.st 3 (.t 1) (.t 88))),none,0⟩,
⟨(some 2),(.q (.mv (.t 89))),none,0⟩])
noncomputable def s11 : AC :=
(.reg [⟨(some 91),(.x (.call (.c (.fn 9 [] [])) [(.c (.int .i64 (.negSucc 2))),(.c (.int .i64 (.ofNat 2)))])),none,0⟩,
⟨(some 92),(.x (.call (.c (.fn 13 [] [])) [(.t 91)])),none,0⟩,
⟨(some 90),(.q (.mv (.t 92))),none,0⟩,
⟨(some 93),(.q (.extract (.t 90) 0)),none,0⟩,
⟨(some 94),(.q (.extract (.t 90) 1)),none,0⟩,
⟨none,(.x (.st 3 (.t 3) (.t 93))),none,0⟩,
⟨(some 4),(.q (.mv (.t 94))),none,0⟩])
noncomputable def s12 : AC :=
(.reg [⟨(some 96),(.x (.call (.c (.fn 9 [] [])) [(.c (.int .i64 (.ofNat 2))),(.c (.int .i64 (.ofNat 3)))])),none,0⟩,
⟨(some 97),(.x (.call (.c (.fn 14 [] [])) [(.t 96),(.c (.int .i64 (.ofNat 100)))])),none,0⟩,
⟨(some 95),(.q (.mv (.t 97))),none,0⟩,
⟨(some 98),(.q (.extract (.t 95) 0)),none,0⟩,
⟨(some 99),(.q (.extract (.t 95) 1)),none,0⟩,
⟨(some 9),(.q (.mv (.t 98))),none,0⟩,
⟨(some 6),(.q (.mv (.t 99))),none,0⟩])
noncomputable def s13 : AC :=
(.seq (.reg [⟨(some 100),(.q (.ld true 3 (.t 1))),none,0⟩,
⟨(some 101),(.q (.mv (.t 2))),none,0⟩,
⟨(some 102),(.x (.call (.c (.fn 7 [] [])) [(.t 100),(.t 101),(.c (.int .i64 (.negSucc 1))),(.c (.int .i64 (.ofNat 1)))])),none,0⟩,
⟨(some 103),(.q (.un .not (.t 102))),none,0⟩,
⟨(some 104),(.q (.mv (.t 103))),none,0⟩,
⟨(some 105),(.q (.ld true 3 (.t 3))),(some (104,false)),0⟩,
⟨(some 106),(.q (.mv (.t 4))),(some (104,false)),0⟩,
⟨(some 107),(.x (.call (.c (.fn 7 [] [])) [(.t 105),(.t 106),(.c (.int .i64 (.negSucc 0))),(.c (.int .i64 (.ofNat 1)))])),(some (104,false)),0⟩,
⟨(some 108),(.q (.un .not (.t 107))),(some (104,false)),0⟩,
⟨(some 109),(.q (.pick (.t 104) (.c (.bool true)) (.t 108))),none,0⟩,
⟨(some 110),(.q (.mv (.t 109))),none,0⟩,
⟨(some 111),(.q (.mv (.t 9))),(some (110,false)),0⟩,
⟨(some 112),(.q (.bin .neq (.p .int) (.t 111) (.c (.int .i64 (.ofNat 66))))),(some (110,false)),0⟩,
⟨(some 113),(.q (.pick (.t 110) (.c (.bool true)) (.t 112))),none,0⟩,
⟨(some 114),(.q (.mv (.t 113))),none,0⟩,
⟨(some 115),(.q (.mv (.t 6))),(some (114,false)),0⟩,
⟨(some 116),(.q (.bin .neq (.p .int) (.t 115) (.c (.int .i64 (.ofNat 0))))),(some (114,false)),0⟩,
⟨(some 117),(.q (.pick (.t 114) (.c (.bool true)) (.t 116))),none,0⟩])
(.cond (.t 117) (.seq (.reg [⟨(some 0),(.q (.mv (.c (.bool false)))),none,0⟩])
.ret) .skip))
noncomputable def s14 : AC :=
(.reg [⟨(some 119),(.x (.call (.c (.fn 9 [] [])) [(.c (.int .i64 (.ofNat 3))),(.c (.int .i64 (.ofNat 10)))])),none,0⟩,
⟨(some 120),(.x (.call (.c (.fn 9 [] [])) [(.c (.int .i64 (.ofNat 2))),(.c (.int .i64 (.ofNat 5)))])),none,0⟩,
⟨(some 121),(.x (.call (.c (.fn 15 [] [])) [(.t 119),(.t 120)])),none,0⟩,
⟨(some 118),(.q (.mv (.t 121))),none,0⟩,
⟨(some 122),(.q (.extract (.t 118) 0)),none,0⟩,
⟨(some 123),(.q (.extract (.t 118) 1)),none,0⟩,
⟨none,(.x (.st 3 (.t 1) (.t 122))),none,0⟩,
⟨(some 2),(.q (.mv (.t 123))),none,0⟩])
noncomputable def s15 : AC :=
(.reg [⟨(some 125),(.x (.call (.c (.fn 9 [] [])) [(.c (.int .i64 (.negSucc 0))),(.c (.int .i64 (.ofNat 2)))])),none,0⟩,
⟨(some 126),(.x (.call (.c (.fn 9 [] [])) [(.c (.int .i64 (.ofNat 1))),(.c (.int .i64 (.ofNat 7)))])),none,0⟩,
⟨(some 127),(.x (.call (.c (.fn 15 [] [])) [(.t 125),(.t 126)])),none,0⟩,
⟨(some 124),(.q (.mv (.t 127))),none,0⟩,
⟨(some 128),(.q (.extract (.t 124) 0)),none,0⟩,
⟨(some 129),(.q (.extract (.t 124) 1)),none,0⟩,
⟨none,(.x (.st 3 (.t 3) (.t 128))),none,0⟩,
⟨(some 4),(.q (.mv (.t 129))),none,0⟩])
noncomputable def s16 : AC :=
(.reg [⟨(some 131),(.x (.call (.c (.fn 9 [] [])) [(.c (.int .i64 (.negSucc 6))),(.c (.int .i64 (.ofNat 5)))])),none,0⟩,
⟨(some 132),(.x (.call (.c (.fn 9 [] [])) [(.c (.int .i64 (.negSucc 3))),(.c (.int .i64 (.ofNat 3)))])),none,0⟩,
⟨(some 133),(.x (.call (.c (.fn 15 [] [])) [(.t 131),(.t 132)])),none,0⟩,
⟨(some 130),(.q (.mv (.t 133))),none,0⟩,
⟨(some 134),(.q (.extract (.t 130) 0)),none,0⟩,
⟨(some 135),(.q (.extract (.t 130) 1)),none,0⟩,
⟨none,(.x (.st 3 (.t 7) (.t 134))),none,0⟩,
⟨(some 6),(.q (.mv (.t 135))),none,0⟩])
noncomputable def s17 : AC :=
(.reg [⟨(some 137),(.x (.call (.c (.fn 9 [] [])) [(.c (.int .i64 (.ofNat 5))),(.c (.int .i64 (.ofNat 2)))])),none,0⟩,
⟨(some 138),(.x (.call (.c (.fn 9 [] [])) [(.c (.int .i64 (.ofNat 9))),(.c (.int .i64 (.ofNat 2)))])),none,0⟩,
⟨(some 139),(.x (.call (.c (.fn 15 [] [])) [(.t 137),(.t 138)])),none,0⟩,
⟨(some 136),(.q (.mv (.t 139))),none,0⟩,
⟨(some 140),(.q (.extract (.t 136) 0)),none,0⟩,
⟨(some 141),(.q (.extract (.t 136) 1)),none,0⟩,
⟨(some 10),(.a (.alloc 25 [(.bool false),.nilsl,.nilsl])),none,0⟩,
⟨none,(.x (.st 3 (.t 10) (.t 140))),none,0⟩,
⟨(some 8),(.q (.mv (.t 141))),none,0⟩])
noncomputable def s18 : AC :=
(.seq (.reg [⟨(some 142),(.q (.ld true 3 (.t 1))),none,0⟩,
⟨(some 143),(.q (.mv (.t 2))),none,0⟩,
⟨(some 144),(.x (.call (.c (.fn 7 [] [])) [(.t 142),(.t 143),(.c (.int .i64 (.ofNat 1))),(.c (.int .i64 (.ofNat 3)))])),none,0⟩,
⟨(some 145),(.q (.un .not (.t 144))),none,0⟩,
⟨(some 146),(.q (.mv (.t 145))),none,0⟩,
⟨(some 147),(.q (.ld true 3 (.t 3))),(some (146,false)),0⟩,
⟨(some 148),(.q (.mv (.t 4))),(some (146,false)),0⟩,
⟨(some 149),(.x (.call (.c (.fn 7 [] [])) [(.t 147),(.t 148),(.c (.int .i64 (.ofNat 0))),(.c (.int .i64 (.ofNat 1)))])),(some (146,false)),0⟩,
⟨(some 150),(.q (.un .not (.t 149))),(some (146,false)),0⟩,
⟨(some 151),(.q (.pick (.t 146) (.c (.bool true)) (.t 150))),none,0⟩,
⟨(some 152),(.q (.mv (.t 151))),none,0⟩,
⟨(some 153),(.q (.ld true 3 (.t 7))),(some (152,false)),0⟩,
⟨(some 154),(.q (.mv (.t 6))),(some (152,false)),0⟩,
⟨(some 155),(.x (.call (.c (.fn 7 [] [])) [(.t 153),(.t 154),(.c (.int .i64 (.negSucc 3))),(.c (.int .i64 (.ofNat 3)))])),(some (152,false)),0⟩,
⟨(some 156),(.q (.un .not (.t 155))),(some (152,false)),0⟩,
⟨(some 157),(.q (.pick (.t 152) (.c (.bool true)) (.t 156))),none,0⟩,
⟨(some 158),(.q (.mv (.t 157))),none,0⟩,
⟨(some 159),(.q (.ld true 3 (.t 10))),(some (158,false)),0⟩,
⟨(some 160),(.q (.mv (.t 8))),(some (158,false)),0⟩,
⟨(some 161),(.x (.call (.c (.fn 7 [] [])) [(.t 159),(.t 160),(.c (.int .i64 (.ofNat 3))),(.c (.int .i64 (.ofNat 1)))])),(some (158,false)),0⟩,
⟨(some 162),(.q (.un .not (.t 161))),(some (158,false)),0⟩,
⟨(some 163),(.q (.pick (.t 158) (.c (.bool true)) (.t 162))),none,0⟩])
(.cond (.t 163) (.seq (.reg [⟨(some 0),(.q (.mv (.c (.bool false)))),none,0⟩])
.ret) .skip))
noncomputable def s19 : AC :=
(.reg [⟨(some 164),(.a (.bslice 30 1 1 [(.int .u32 (.ofNat 0))] [(0,(.c (.int .u32 (.ofNat 2))))])),none,0⟩,
⟨(some 165),(.a (.bslice 30 1 1 [(.int .u32 (.ofNat 0))] [(0,(.c (.int .u32 (.ofNat 4))))])),none,0⟩,
⟨(some 166),(.q (.build [(.bool false),.nilsl,.nilsl] [(1,1,(.t 164)),(2,1,(.t 165))])),none,0⟩,
⟨(some 167),(.x (.call (.c (.fn 16 [] [])) [(.t 166)])),none,0⟩,
⟨(some 168),(.q (.bin .eql (.p .int) (.t 167) (.c (.int .i64 (.ofNat 3))))),none,0⟩,
⟨(some 169),(.q (.mv (.t 168))),none,0⟩,
⟨(some 170),(.a (.bslice 30 1 1 [(.int .u32 (.ofNat 0))] [(0,(.c (.int .u32 (.ofNat 1))))])),(some (169,true)),0⟩,
⟨(some 171),(.q (.build [(.bool false),.nilsl,.nilsl] [(0,1,(.c (.bool true))),(2,1,(.t 170))])),(some (169,true)),0⟩,
⟨(some 172),(.x (.call (.c (.fn 16 [] [])) [(.t 171)])),(some (169,true)),0⟩,
⟨(some 173),(.q (.bin .eql (.p .int) (.t 172) (.c (.int .i64 (.ofNat 3))))),(some (169,true)),0⟩,
⟨(some 174),(.q (.pick (.t 169) (.t 173) (.c (.bool false)))),none,0⟩,
⟨(some 11),(.q (.mv (.t 174))),none,0⟩])
noncomputable def s20 : AC :=
(.reg [⟨(some 175),(.q (.mv (.t 11))),none,0⟩,
⟨(some 176),(.q (.mv (.t 175))),none,0⟩,
⟨(some 177),(.x (.call (.c (.fn 17 [] [])) [(.c (.str [45,54,47,52])),(.c (.int .i64 (.negSucc 2))),(.c (.int .i64 (.ofNat 2)))])),(some (176,true)),0⟩,
⟨(some 178),(.q (.pick (.t 176) (.t 177) (.c (.bool false)))),none,0⟩,
⟨(some 179),(.q (.mv (.t 178))),none,0⟩,
⟨(some 180),(.x (.call (.c (.fn 17 [] [])) [(.c (.str [45,48,47,51])),(.c (.int .i64 (.ofNat 0))),(.c (.int .i64 (.ofNat 1)))])),(some (179,true)),0⟩,
⟨(some 181),(.q (.pick (.t 179) (.t 180) (.c (.bool false)))),none,0⟩,
⟨(some 182),(.q (.mv (.t 181))),none,0⟩,
⟨(some 183),(.x (.call (.c (.fn 18 [] [])) [(.c (.str [49,47,48])),(.c (.int .i64 (.ofNat 6))),(.c (.int .i64 (.ofNat 2)))])),(some (182,true)),0⟩,
⟨(some 184),(.q (.pick (.t 182) (.t 183) (.c (.bool false)))),none,0⟩,
⟨(some 185),(.q (.mv (.t 184))),none,0⟩,
⟨(some 186),(.x (.call (.c (.fn 18 [] [])) [(.c (.str [49,47])),(.c (.int .i64 (.ofNat 11))),(.c (.int .i64 (.ofNat 2)))])),(some (185,true)),0⟩,
⟨(some 187),(.q (.pick (.t 185) (.t 186) (.c (.bool false)))),none,0⟩,
⟨(some 188),(.q (.mv (.t 187))),none,0⟩,
⟨(some 189),(.x (.call (.c (.fn 18 [] [])) [(.c (.str [49,45,50])),(.c (.int .i64 (.ofNat 11))),(.c (.int .i64 (.ofNat 1)))])),(some (188,true)),0⟩,
⟨(some 190),(.q (.pick (.t 188) (.t 189) (.c (.bool false)))),none,0⟩,
⟨(some 191),(.q (.mv (.t 190))),none,0⟩,
⟨(some 192),(.x (.call (.c (.fn 18 [] [])) [(.c (.str [49,47,47,50])),(.c (.int .i64 (.ofNat 11))),(.c (.int .i64 (.ofNat 2)))])),(some (191,true)),0⟩,
⟨(some 193),(.q (.pick (.t 191) (.t 192) (.c (.bool false)))),none,0⟩,
⟨(some 194),(.q (.mv (.t 193))),none,0⟩,
⟨(some 195),(.x (.call (.c (.fn 18 [] [])) [(.c (.str [48,49])),(.c (.int .i64 (.ofNat 11))),(.c (.int .i64 (.ofNat 0)))])),(some (194,true)),0⟩,
⟨(some 196),(.q (.pick (.t 194) (.t 195) (.c (.bool false)))),none,0⟩,
⟨(some 197),(.q (.mv (.t 196))),none,0⟩,
⟨(some 198),(.x (.call (.c (.fn 19 [] [])) [])),(some (197,true)),0⟩,
⟨(some 199),(.q (.pick (.t 197) (.t 198) (.c (.bool false)))),none,0⟩,
⟨(some 0),(.q (.mv (.t 199))),none,0⟩])
noncomputable def s21 : AC :=
.ret
theorem body : cFn Tryd.prog Tryd.f3 = some ⟨200, [(.t 0)], (.seq s0 (.seq s1 (.seq s2 (.seq s3 (.seq s4 (.seq s5 (.seq s6 (.seq s7 (.seq s8 (.seq s9 (.seq s10 (.seq s11 (.seq s12 (.seq s13 (.seq s14 (.seq s15 (.seq s16 (.seq s17 (.seq s18 (.seq s19 (.seq s20 s21)))))))))))))))))))))⟩ := by kernel_rfl
end Go.Proofs.YtopemogpgppjlaaDoor.ratKnown
