/- DealKnown: the table of functions; the statements of the law. -/
import Derived.Test.YtiiplmagnlcpbaaGreatDoorDealKnownIr0
import Derived.Test.YtiiplmagnlcpbaaGreatDoorDealKnownIr1
import Derived.Test.YtiiplmagnlcpbaaGreatDoorDealKnownIr2
import Derived.Test.YtiiplmagnlcpbaaGreatDoorDealKnownIr3
namespace Go.Proofs.YtiiplmagnlcpbaaGreatDoor.dealKnown
open Go.Ev
set_option maxRecDepth 100000
noncomputable def fnsR : List (Nat × AFn) := [(7, a7), (8, a8), (10, a10), (12, a12), (14, a14), (15, a15), (16, a16), (17, a17), (18, a18), (19, a19), (20, a20), (21, a21), (25, a25), (26, a26), (27, a27), (28, a28), (29, a29), (30, a30), (33, a33), (39, a39), (40, a40), (41, a41), (42, a42), (43, a43), (44, a44), (47, a47), (48, a48), (49, a49), (50, a50), (51, a51), (52, a52), (56, a56), (57, a57), (58, a58), (59, a59), (60, a60), (67, a67), (71, a71), (72, a72), (73, a73), (74, a74), (75, a75), (76, a76), (81, a81), (82, a82), (83, a83), (84, a84), (85, a85), (86, a86), (90, a90), (91, a91), (92, a92), (93, a93), (94, a94), (95, a95), (97, a97), (98, a98), (99, a99), (100, a100), (101, a101), (102, a102), (103, a103), (104, a104), (105, a105), (106, a106), (107, a107), (108, a108), (110, a110), (111, a111), (112, a112), (113, a113), (114, a114), (115, a115), (116, a116), (117, a117), (118, a118), (119, a119), (120, a120), (121, a121), (122, a122), (123, a123), (124, a124), (125, a125), (126, a126), (127, a127), (128, a128), (129, a129), (130, a130), (131, a131), (132, a132), (133, a133), (134, a134), (135, a135), (136, a136), (137, a137), (138, a138), (139, a139), (140, a140), (141, a141), (142, a142), (143, a143), (144, a144), (145, a145), (146, a146), (147, a147), (148, a148), (149, a149), (150, a150), (151, a151), (152, a152), (153, a153), (154, a154), (171, a171), (172, a172), (173, a173), (174, a174), (175, a175), (176, a176)]
noncomputable def fnsL : List (Nat × AFn) := (34, a34) :: fnsR
theorem rows : ∀ p ∈ fnsR, Row Tryz.prog p := by
  unfold fnsR
  refine List.forall_mem_cons.2 ⟨row7, ?_⟩
  refine List.forall_mem_cons.2 ⟨row8, ?_⟩
  refine List.forall_mem_cons.2 ⟨row10, ?_⟩
  refine List.forall_mem_cons.2 ⟨row12, ?_⟩
  refine List.forall_mem_cons.2 ⟨row14, ?_⟩
  refine List.forall_mem_cons.2 ⟨row15, ?_⟩
  refine List.forall_mem_cons.2 ⟨row16, ?_⟩
  refine List.forall_mem_cons.2 ⟨row17, ?_⟩
  refine List.forall_mem_cons.2 ⟨row18, ?_⟩
  refine List.forall_mem_cons.2 ⟨row19, ?_⟩
  refine List.forall_mem_cons.2 ⟨row20, ?_⟩
  refine List.forall_mem_cons.2 ⟨row21, ?_⟩
  refine List.forall_mem_cons.2 ⟨row25, ?_⟩
  refine List.forall_mem_cons.2 ⟨row26, ?_⟩
  refine List.forall_mem_cons.2 ⟨row27, ?_⟩
  refine List.forall_mem_cons.2 ⟨row28, ?_⟩
  refine List.forall_mem_cons.2 ⟨row29, ?_⟩
  refine List.forall_mem_cons.2 ⟨row30, ?_⟩
  refine List.forall_mem_cons.2 ⟨row33, ?_⟩
  refine List.forall_mem_cons.2 ⟨row39, ?_⟩
  refine List.forall_mem_cons.2 ⟨row40, ?_⟩
  refine List.forall_mem_cons.2 ⟨row41, ?_⟩
  refine List.forall_mem_cons.2 ⟨row42, ?_⟩
  refine List.forall_mem_cons.2 ⟨row43, ?_⟩
  refine List.forall_mem_cons.2 ⟨row44, ?_⟩
  refine List.forall_mem_cons.2 ⟨row47, ?_⟩
  refine List.forall_mem_cons.2 ⟨row48, ?_⟩
  refine List.forall_mem_cons.2 ⟨row49, ?_⟩
  refine List.forall_mem_cons.2 ⟨row50, ?_⟩
  refine List.forall_mem_cons.2 ⟨row51, ?_⟩
  refine List.forall_mem_cons.2 ⟨row52, ?_⟩
  refine List.forall_mem_cons.2 ⟨row56, ?_⟩
  refine List.forall_mem_cons.2 ⟨row57, ?_⟩
  refine List.forall_mem_cons.2 ⟨row58, ?_⟩
  refine List.forall_mem_cons.2 ⟨row59, ?_⟩
  refine List.forall_mem_cons.2 ⟨row60, ?_⟩
  refine List.forall_mem_cons.2 ⟨row67, ?_⟩
  refine List.forall_mem_cons.2 ⟨row71, ?_⟩
  refine List.forall_mem_cons.2 ⟨row72, ?_⟩
  refine List.forall_mem_cons.2 ⟨row73, ?_⟩
  refine List.forall_mem_cons.2 ⟨row74, ?_⟩
  refine List.forall_mem_cons.2 ⟨row75, ?_⟩
  refine List.forall_mem_cons.2 ⟨row76, ?_⟩
  refine List.forall_mem_cons.2 ⟨row81, ?_⟩
  refine List.forall_mem_cons.2 ⟨row82, ?_⟩
  refine List.forall_mem_cons.2 ⟨row83, ?_⟩
  refine List.forall_mem_cons.2 ⟨row84, ?_⟩
  refine List.forall_mem_cons.2 ⟨row85, ?_⟩
  refine List.forall_mem_cons.2 ⟨row86, ?_⟩
  refine List.forall_mem_cons.2 ⟨row90, ?_⟩
  refine List.forall_mem_cons.2 ⟨row91, ?_⟩
  refine List.forall_mem_cons.2 ⟨row92, ?_⟩
  refine List.forall_mem_cons.2 ⟨row93, ?_⟩
  refine List.forall_mem_cons.2 ⟨row94, ?_⟩
  refine List.forall_mem_cons.2 ⟨row95, ?_⟩
  refine List.forall_mem_cons.2 ⟨row97, ?_⟩
  refine List.forall_mem_cons.2 ⟨row98, ?_⟩
  refine List.forall_mem_cons.2 ⟨row99, ?_⟩
  refine List.forall_mem_cons.2 ⟨row100, ?_⟩
  refine List.forall_mem_cons.2 ⟨row101, ?_⟩
  refine List.forall_mem_cons.2 ⟨row102, ?_⟩
  refine List.forall_mem_cons.2 ⟨row103, ?_⟩
  refine List.forall_mem_cons.2 ⟨row104, ?_⟩
  refine List.forall_mem_cons.2 ⟨row105, ?_⟩
  refine List.forall_mem_cons.2 ⟨row106, ?_⟩
  refine List.forall_mem_cons.2 ⟨row107, ?_⟩
  refine List.forall_mem_cons.2 ⟨row108, ?_⟩
  refine List.forall_mem_cons.2 ⟨row110, ?_⟩
  refine List.forall_mem_cons.2 ⟨row111, ?_⟩
  refine List.forall_mem_cons.2 ⟨row112, ?_⟩
  refine List.forall_mem_cons.2 ⟨row113, ?_⟩
  refine List.forall_mem_cons.2 ⟨row114, ?_⟩
  refine List.forall_mem_cons.2 ⟨row115, ?_⟩
  refine List.forall_mem_cons.2 ⟨row116, ?_⟩
  refine List.forall_mem_cons.2 ⟨row117, ?_⟩
  refine List.forall_mem_cons.2 ⟨row118, ?_⟩
  refine List.forall_mem_cons.2 ⟨row119, ?_⟩
  refine List.forall_mem_cons.2 ⟨row120, ?_⟩
  refine List.forall_mem_cons.2 ⟨row121, ?_⟩
  refine List.forall_mem_cons.2 ⟨row122, ?_⟩
  refine List.forall_mem_cons.2 ⟨row123, ?_⟩
  refine List.forall_mem_cons.2 ⟨row124, ?_⟩
  refine List.forall_mem_cons.2 ⟨row125, ?_⟩
  refine List.forall_mem_cons.2 ⟨row126, ?_⟩
  refine List.forall_mem_cons.2 ⟨row127, ?_⟩
  refine List.forall_mem_cons.2 ⟨row128, ?_⟩
  refine List.forall_mem_cons.2 ⟨row129, ?_⟩
  refine List.forall_mem_cons.2 ⟨row130, ?_⟩
  refine List.forall_mem_cons.2 ⟨row131, ?_⟩
  refine List.forall_mem_cons.2 ⟨row132, ?_⟩
  refine List.forall_mem_cons.2 ⟨row133, ?_⟩
  refine List.forall_mem_cons.2 ⟨row134, ?_⟩
  refine List.forall_mem_cons.2 ⟨row135, ?_⟩
  refine List.forall_mem_cons.2 ⟨row136, ?_⟩
  refine List.forall_mem_cons.2 ⟨row137, ?_⟩
  refine List.forall_mem_cons.2 ⟨row138, ?_⟩
  refine List.forall_mem_cons.2 ⟨row139, ?_⟩
  refine List.forall_mem_cons.2 ⟨row140, ?_⟩
  refine List.forall_mem_cons.2 ⟨row141, ?_⟩
  refine List.forall_mem_cons.2 ⟨row142, ?_⟩
  refine List.forall_mem_cons.2 ⟨row143, ?_⟩
  refine List.forall_mem_cons.2 ⟨row144, ?_⟩
  refine List.forall_mem_cons.2 ⟨row145, ?_⟩
  refine List.forall_mem_cons.2 ⟨row146, ?_⟩
  refine List.forall_mem_cons.2 ⟨row147, ?_⟩
  refine List.forall_mem_cons.2 ⟨row148, ?_⟩
  refine List.forall_mem_cons.2 ⟨row149, ?_⟩
  refine List.forall_mem_cons.2 ⟨row150, ?_⟩
  refine List.forall_mem_cons.2 ⟨row151, ?_⟩
  refine List.forall_mem_cons.2 ⟨row152, ?_⟩
  refine List.forall_mem_cons.2 ⟨row153, ?_⟩
  refine List.forall_mem_cons.2 ⟨row154, ?_⟩
  refine List.forall_mem_cons.2 ⟨row171, ?_⟩
  refine List.forall_mem_cons.2 ⟨row172, ?_⟩
  refine List.forall_mem_cons.2 ⟨row173, ?_⟩
  refine List.forall_mem_cons.2 ⟨row174, ?_⟩
  refine List.forall_mem_cons.2 ⟨row175, ?_⟩
  refine List.forall_mem_cons.2 ⟨row176, ?_⟩
  intro p hp
  cases hp
theorem drd34 : Dfrd Tryz.prog (table fnsL) 34 a34 := dfrd_of (asked _) (bits_sound _) Tryz.func34 drow34 ⟨Tryz.f58, a58, by kernel_rfl, Tryz.func58, by kernel_rfl, by kernel_rfl⟩
theorem knows : Known Tryz.prog (table fnsL) := known_tableD (by kernel_rfl) fun p hp => by
  rcases List.mem_cons.1 hp with rfl | hp
  · exact .inr drd34
  exact .inl (rows p hp)
noncomputable def tabs : List (Nat × List AV) := [(0, [.int .u8 (.ofNat 0), .int .u8 (.ofNat 1), .int .u8 (.ofNat 56), .int .u8 (.ofNat 2), .int .u8 (.ofNat 57), .int .u8 (.ofNat 49), .int .u8 (.ofNat 28), .int .u8 (.ofNat 3), .int .u8 (.ofNat 61), .int .u8 (.ofNat 58), .int .u8 (.ofNat 42), .int .u8 (.ofNat 50), .int .u8 (.ofNat 38), .int .u8 (.ofNat 29), .int .u8 (.ofNat 17), .int .u8 (.ofNat 4), .int .u8 (.ofNat 62), .int .u8 (.ofNat 47), .int .u8 (.ofNat 59), .int .u8 (.ofNat 36), .int .u8 (.ofNat 45), .int .u8 (.ofNat 43), .int .u8 (.ofNat 51), .int .u8 (.ofNat 22), .int .u8 (.ofNat 53), .int .u8 (.ofNat 39), .int .u8 (.ofNat 33), .int .u8 (.ofNat 30), .int .u8 (.ofNat 24), .int .u8 (.ofNat 18), .int .u8 (.ofNat 12), .int .u8 (.ofNat 5), .int .u8 (.ofNat 63), .int .u8 (.ofNat 55), .int .u8 (.ofNat 48), .int .u8 (.ofNat 27), .int .u8 (.ofNat 60), .int .u8 (.ofNat 41), .int .u8 (.ofNat 37), .int .u8 (.ofNat 16), .int .u8 (.ofNat 46), .int .u8 (.ofNat 35), .int .u8 (.ofNat 44), .int .u8 (.ofNat 21), .int .u8 (.ofNat 52), .int .u8 (.ofNat 32), .int .u8 (.ofNat 23), .int .u8 (.ofNat 11), .int .u8 (.ofNat 54), .int .u8 (.ofNat 26), .int .u8 (.ofNat 40), .int .u8 (.ofNat 15), .int .u8 (.ofNat 34), .int .u8 (.ofNat 20), .int .u8 (.ofNat 31), .int .u8 (.ofNat 10), .int .u8 (.ofNat 25), .int .u8 (.ofNat 14), .int .u8 (.ofNat 19), .int .u8 (.ofNat 9), .int .u8 (.ofNat 13), .int .u8 (.ofNat 8), .int .u8 (.ofNat 7), .int .u8 (.ofNat 6)])]
noncomputable def s0 : AC :=
(.reg [⟨(some 0),(.q (.mv (.c (.bool false)))),none,0⟩])
noncomputable def s1 : AC :=
(.seq (.reg [⟨(some 12),(.a (.bslice 3 1 2 [(.int .i64 (.ofNat 0))] [(0,(.c (.int .i64 (.ofNat 0)))),(1,(.c (.int .i64 (.ofNat 1))))])),none,0⟩,
⟨(some 13),(.x (.call (.c (.fn 15 [] [])) [(.c (.int .i64 (.ofNat 1))),(.c (.int .i64 (.ofNat 0))),(.t 12)])),none,0⟩,
⟨(some 14),(.q (.un .not (.t 13))),none,0⟩,
⟨(some 15),(.q (.mv (.t 14))),none,0⟩,
⟨(some 16),(.a (.bslice 3 1 4 [(.int .i64 (.ofNat 0))] [(0,(.c (.int .i64 (.ofNat 0)))),(1,(.c (.int .i64 (.ofNat 2)))),(2,(.c (.int .i64 (.ofNat 4)))),(3,(.c (.int .i64 (.ofNat 5))))])),(some (15,false)),0⟩,
⟨(some 17),(.x (.call (.c (.fn 15 [] [])) [(.c (.int .i64 (.ofNat 1))),(.c (.int .i64 (.ofNat 1))),(.t 16)])),(some (15,false)),0⟩,
⟨(some 18),(.q (.un .not (.t 17))),(some (15,false)),0⟩,
⟨(some 19),(.q (.pick (.t 15) (.c (.bool true)) (.t 18))),none,0⟩,
⟨(some 20),(.q (.mv (.t 19))),none,0⟩,
⟨(some 21),(.a (.bslice 3 1 3 [(.int .i64 (.ofNat 0))] [(0,(.c (.int .i64 (.ofNat 0)))),(1,(.c (.int .i64 (.ofNat 2)))),(2,(.c (.int .i64 (.ofNat 3))))])),(some (20,false)),0⟩,
⟨(some 22),(.x (.call (.c (.fn 15 [] [])) [(.c (.int .i64 (.ofNat 0))),(.c (.int .i64 (.ofNat 4))),(.t 21)])),(some (20,false)),0⟩,
⟨(some 23),(.q (.un .not (.t 22))),(some (20,false)),0⟩,
⟨(some 24),(.q (.pick (.t 20) (.c (.bool true)) (.t 23))),none,0⟩,
⟨(some 25),(.q (.mv (.t 24))),none,0⟩,
⟨(some 26),(.a (.bslice 3 1 3 [(.int .i64 (.ofNat 0))] [(0,(.c (.int .i64 (.ofNat 0)))),(1,(.c (.int .i64 (.ofNat 2)))),(2,(.c (.int .i64 (.ofNat 3))))])),(some (25,false)),0⟩,
⟨(some 27),(.x (.call (.c (.fn 16 [] [])) [(.c (.int .i64 (.ofNat 1))),(.t 26)])),(some (25,false)),0⟩,
⟨(some 28),(.q (.un .not (.t 27))),(some (25,false)),0⟩,
⟨(some 29),(.q (.pick (.t 25) (.c (.bool true)) (.t 28))),none,0⟩,
⟨(some 30),(.q (.mv (.t 29))),none,0⟩,
⟨(some 31),(.a (.bslice 3 1 3 [(.int .i64 (.ofNat 0))] [(0,(.c (.int .i64 (.ofNat 0)))),(1,(.c (.int .i64 (.ofNat 2)))),(2,(.c (.int .i64 (.ofNat 3))))])),(some (30,false)),0⟩,
⟨(some 32),(.x (.call (.c (.fn 16 [] [])) [(.c (.int .i64 (.ofNat 7))),(.t 31)])),(some (30,false)),0⟩,
⟨(some 33),(.q (.un .not (.t 32))),(some (30,false)),0⟩,
⟨(some 34),(.q (.pick (.t 30) (.c (.bool true)) (.t 33))),none,0⟩])
(.cond (.t 34) (.seq (.reg [⟨(some 0),(.q (.mv (.c (.bool false)))),none,0⟩])
.ret) .skip))
noncomputable def s2 : AC :=
(.reg [⟨(some 36),(.x (.call (.c (.fn 18 [] [])) [])),none,0⟩,
⟨(some 37),(.a (.bslice 3 1 1 [(.int .i64 (.ofNat 0))] [(0,(.c (.int .i64 (.ofNat 1))))])),none,0⟩,
⟨(some 38),(.x (.call (.c (.fn 17 [] [])) [(.t 36),(.t 37),(.c (.int .i64 (.ofNat 6)))])),none,0⟩,
⟨(some 35),(.q (.mv (.t 38))),none,0⟩,
⟨(some 39),(.q (.extract (.t 35) 0)),none,0⟩,
⟨(some 40),(.q (.extract (.t 35) 1)),none,0⟩,
⟨(some 1),(.q (.mv (.t 39))),none,0⟩,
⟨(some 2),(.q (.mv (.t 40))),none,0⟩])
noncomputable def s3 : AC :=
(.reg [⟨(some 42),(.x (.call (.c (.fn 18 [] [])) [])),none,0⟩,
⟨(some 43),(.a (.bslice 3 1 1 [(.int .i64 (.ofNat 0))] [(0,(.c (.int .i64 (.ofNat 0))))])),none,0⟩,
⟨(some 44),(.x (.call (.c (.fn 8 [] [])) [(.t 42),(.t 43),(.c (.int .i64 (.ofNat 4)))])),none,0⟩,
⟨(some 41),(.q (.mv (.t 44))),none,0⟩,
⟨(some 45),(.q (.extract (.t 41) 0)),none,0⟩,
⟨(some 46),(.q (.extract (.t 41) 1)),none,0⟩,
⟨(some 3),(.q (.mv (.t 45))),none,0⟩,
⟨(some 4),(.q (.mv (.t 46))),none,0⟩])
noncomputable def s4 : AC :=
(.reg [⟨(some 48),(.x (.call (.c (.fn 18 [] [])) [])),none,0⟩,
⟨(some 49),(.a (.bslice 3 1 1 [(.int .i64 (.ofNat 0))] [(0,(.c (.int .i64 (.ofNat 1))))])),none,0⟩,
⟨(some 50),(.x (.call (.c (.fn 10 [] [])) [(.t 48),(.t 49),(.c (.int .i64 (.ofNat 6)))])),none,0⟩,
⟨(some 47),(.q (.mv (.t 50))),none,0⟩,
⟨(some 51),(.q (.extract (.t 47) 0)),none,0⟩,
⟨(some 52),(.q (.extract (.t 47) 1)),none,0⟩,
⟨(some 5),(.q (.mv (.t 51))),none,0⟩,
⟨(some 6),(.q (.mv (.t 52))),none,0⟩])
noncomputable def s5 : AC :=
(.reg [⟨(some 54),(.x (.call (.c (.fn 18 [] [])) [])),none,0⟩,
⟨(some 55),(.a (.bslice 3 1 1 [(.int .i64 (.ofNat 0))] [(0,(.c (.int .i64 (.ofNat 0))))])),none,0⟩,
⟨(some 56),(.x (.call (.c (.fn 10 [] [])) [(.t 54),(.t 55),(.c (.int .i64 (.ofNat 4)))])),none,0⟩,
⟨(some 53),(.q (.mv (.t 56))),none,0⟩,
⟨(some 57),(.q (.extract (.t 53) 0)),none,0⟩,
⟨(some 58),(.q (.extract (.t 53) 1)),none,0⟩,
⟨(some 7),(.q (.mv (.t 57))),none,0⟩,
⟨(some 8),(.q (.mv (.t 58))),none,0⟩])
noncomputable def s6 : AC :=
(.seq (.reg [⟨(some 59),(.q (.mv (.t 2))),none,0⟩,
⟨(some 60),(.q (.bin .neq (.p .int) (.t 59) (.c (.int .i64 (.ofNat 2))))),none,0⟩,
⟨(some 61),(.q (.mv (.t 60))),none,0⟩,
⟨(some 62),(.q (.mv (.t 3))),(some (61,false)),0⟩,
⟨(some 63),(.q (.bin .neq (.p .int) (.t 62) (.c (.int .i64 (.ofNat 0))))),(some (61,false)),0⟩,
⟨(some 64),(.q (.pick (.t 61) (.c (.bool true)) (.t 63))),none,0⟩,
⟨(some 65),(.q (.mv (.t 64))),none,0⟩,
⟨(some 66),(.q (.mv (.t 4))),(some (65,false)),0⟩,
⟨(some 67),(.q (.bin .neq (.p .int) (.t 66) (.c (.int .i64 (.ofNat 0))))),(some (65,false)),0⟩,
⟨(some 68),(.q (.pick (.t 65) (.c (.bool true)) (.t 67))),none,0⟩,
⟨(some 69),(.q (.mv (.t 68))),none,0⟩,
⟨(some 70),(.q (.mv (.t 5))),(some (69,false)),0⟩,
⟨(some 71),(.q (.bin .neq (.p .int) (.t 70) (.c (.int .i64 (.ofNat 4))))),(some (69,false)),0⟩,
⟨(some 72),(.q (.pick (.t 69) (.c (.bool true)) (.t 71))),none,0⟩,
⟨(some 73),(.q (.mv (.t 72))),none,0⟩,
⟨(some 74),(.q (.mv (.t 6))),(some (73,false)),0⟩,
⟨(some 75),(.q (.bin .neq (.p .int) (.t 74) (.c (.int .i64 (.ofNat 0))))),(some (73,false)),0⟩,
⟨(some 76),(.q (.pick (.t 73) (.c (.bool true)) (.t 75))),none,0⟩,
⟨(some 77),(.q (.mv (.t 76))),none,0⟩,
⟨(some 78),(.q (.mv (.t 8))),(some (77,false)),0⟩,
⟨(some 79),(.q (.bin .neq (.p .int) (.t 78) (.c (.int .i64 (.ofNat 18))))),(some (77,false)),0⟩,
⟨(some 80),(.q (.pick (.t 77) (.c (.bool true)) (.t 79))),none,0⟩])
(.cond (.t 80) (.seq (.reg [⟨(some 0),(.q (.mv (.c (.bool false)))),none,0⟩])
.ret) .skip))
noncomputable def s7 : AC :=
(.reg [⟨(some 82),(.x (.call (.c (.fn 18 [] [])) [])),none,0⟩,
⟨(some 83),(.a (.bslice 3 1 1 [(.int .i64 (.ofNat 0))] [(0,(.c (.int .i64 (.ofNat 0))))])),none,0⟩,
⟨(some 84),(.x (.call (.c (.fn 19 [] [])) [(.t 82),(.t 83),(.c (.int .i64 (.ofNat 1)))])),none,0⟩,
⟨(some 81),(.q (.mv (.t 84))),none,0⟩,
⟨(some 85),(.q (.extract (.t 81) 0)),none,0⟩,
⟨(some 86),(.q (.extract (.t 81) 1)),none,0⟩,
⟨(some 9),(.q (.mv (.t 85))),none,0⟩,
⟨(some 2),(.q (.mv (.t 86))),none,0⟩])
noncomputable def s8 : AC :=
(.reg [⟨(some 88),(.x (.call (.c (.fn 18 [] [])) [])),none,0⟩,
⟨(some 89),(.a (.bslice 3 1 1 [(.int .i64 (.ofNat 0))] [(0,(.c (.int .i64 (.ofNat 1))))])),none,0⟩,
⟨(some 90),(.x (.call (.c (.fn 12 [] [])) [(.t 88),(.t 89)])),none,0⟩,
⟨(some 87),(.q (.mv (.t 90))),none,0⟩,
⟨(some 91),(.q (.extract (.t 87) 0)),none,0⟩,
⟨(some 92),(.q (.extract (.t 87) 1)),none,0⟩,
⟨(some 10),(.q (.mv (.t 91))),none,0⟩,
⟨(some 4),(.q (.mv (.t 92))),none,0⟩])
noncomputable def s9 : AC :=
(.reg [⟨(some 94),(.x (.call (.c (.fn 18 [] [])) [])),none,0⟩,
⟨(some 95),(.a (.bslice 3 1 1 [(.int .i64 (.ofNat 0))] [(0,(.c (.int .i64 (.ofNat 0))))])),none,0⟩,
⟨(some 96),(.x (.call (.c (.fn 12 [] [])) [(.t 94),(.t 95)])),none,0⟩,
⟨(some 93),(.q (.mv (.t 96))),none,0⟩,
⟨(some 97),(.q (.extract (.t 93) 0)),none,0⟩,
⟨(some 98),(.q (.extract (.t 93) 1)),none,0⟩,
⟨(some 11),(.q (.mv (.t 97))),none,0⟩,
⟨(some 6),(.q (.mv (.t 98))),none,0⟩])
noncomputable def s10 : AC :=
(.seq (.reg [⟨(some 99),(.q (.mv (.t 9))),none,0⟩,
⟨(some 100),(.a (.bslice 3 1 1 [(.int .i64 (.ofNat 0))] [(0,(.c (.int .i64 (.ofNat 5))))])),none,0⟩,
⟨(some 101),(.x (.call (.c (.fn 20 [] [])) [(.t 99),(.t 100)])),none,0⟩,
⟨(some 102),(.q (.un .not (.t 101))),none,0⟩,
⟨(some 103),(.q (.mv (.t 102))),none,0⟩,
⟨(some 104),(.q (.mv (.t 2))),(some (103,false)),0⟩,
⟨(some 105),(.q (.bin .neq (.p .int) (.t 104) (.c (.int .i64 (.ofNat 0))))),(some (103,false)),0⟩,
⟨(some 106),(.q (.pick (.t 103) (.c (.bool true)) (.t 105))),none,0⟩,
⟨(some 107),(.q (.mv (.t 106))),none,0⟩,
⟨(some 108),(.q (.mv (.t 4))),(some (107,false)),0⟩,
⟨(some 109),(.q (.bin .neq (.p .int) (.t 108) (.c (.int .i64 (.ofNat 0))))),(some (107,false)),0⟩,
⟨(some 110),(.q (.pick (.t 107) (.c (.bool true)) (.t 109))),none,0⟩,
⟨(some 111),(.q (.mv (.t 110))),none,0⟩,
⟨(some 112),(.q (.mv (.t 10))),(some (111,false)),0⟩,
⟨(some 113),(.x (.call (.c (.fn 21 [] [])) [(.c (.int .i64 (.ofNat 7))),(.c (.int .i64 (.ofNat 3)))])),(some (111,false)),0⟩,
⟨(some 114),(.a (.bslice 46 3 1 [(.bool false),.nilsl,.nilsl] [(0,(.t 113))])),(some (111,false)),0⟩,
⟨(some 115),(.x (.call (.c (.fn 14 [] [])) [(.t 112),(.t 114)])),(some (111,false)),0⟩,
⟨(some 116),(.q (.un .not (.t 115))),(some (111,false)),0⟩,
⟨(some 117),(.q (.pick (.t 111) (.c (.bool true)) (.t 116))),none,0⟩,
⟨(some 118),(.q (.mv (.t 117))),none,0⟩,
⟨(some 119),(.q (.mv (.t 6))),(some (118,false)),0⟩,
⟨(some 120),(.q (.bin .neq (.p .int) (.t 119) (.c (.int .i64 (.ofNat 0))))),(some (118,false)),0⟩,
⟨(some 121),(.q (.pick (.t 118) (.c (.bool true)) (.t 120))),none,0⟩,
⟨(some 122),(.q (.mv (.t 121))),none,0⟩,
⟨(some 123),(.q (.mv (.t 11))),(some (122,false)),0⟩,
⟨(some 124),(.x (.call (.c (.fn 21 [] [])) [(.c (.int .i64 (.ofNat 11))),(.c (.int .i64 (.ofNat 3)))])),(some (122,false)),0⟩,
⟨(some 125),(.a (.bslice 46 3 1 [(.bool false),.nilsl,.nilsl] [(0,(.t 124))])),(some (122,false)),0⟩,
⟨(some 126),(.x (.call (.c (.fn 14 [] [])) [(.t 123),(.t 125)])),(some (122,false)),0⟩,
⟨(some 127),(.q (.un .not (.t 126))),(some (122,false)),0⟩,
⟨(some 128),(.q (.pick (.t 122) (.c (.bool true)) (.t 127))),none,0⟩])
(.cond (.t 128) (.seq (.reg [⟨(some 0),(.q (.mv (.c (.bool false)))),none,0⟩])
.ret) .skip))
noncomputable def s11 : AC :=
(.reg [⟨(some 130),(.x (.call (.c (.fn 18 [] [])) [])),none,0⟩,
⟨(some 131),(.x (.call (.c (.fn 17 [] [])) [(.t 130),(.c .nilsl),(.c (.int .i64 (.ofNat 0)))])),none,0⟩,
⟨(some 129),(.q (.mv (.t 131))),none,0⟩,
⟨(some 132),(.q (.extract (.t 129) 0)),none,0⟩,
⟨(some 133),(.q (.extract (.t 129) 1)),none,0⟩,
⟨(some 2),(.q (.mv (.t 133))),none,0⟩])
noncomputable def s12 : AC :=
(.reg [⟨(some 135),(.x (.call (.c (.fn 18 [] [])) [])),none,0⟩,
⟨(some 136),(.a (.bslice 3 1 1 [(.int .i64 (.ofNat 0))] [(0,(.c (.int .i64 (.ofNat 2))))])),none,0⟩,
⟨(some 137),(.x (.call (.c (.fn 17 [] [])) [(.t 135),(.t 136),(.c (.int .i64 (.ofNat 0)))])),none,0⟩,
⟨(some 134),(.q (.mv (.t 137))),none,0⟩,
⟨(some 138),(.q (.extract (.t 134) 0)),none,0⟩,
⟨(some 139),(.q (.extract (.t 134) 1)),none,0⟩,
⟨(some 4),(.q (.mv (.t 139))),none,0⟩])
noncomputable def s13 : AC :=
(.reg [⟨(some 140),(.q (.mv (.t 2))),none,0⟩,
⟨(some 141),(.q (.bin .eql (.p .int) (.t 140) (.c (.int .i64 (.ofNat 10))))),none,0⟩,
⟨(some 142),(.q (.mv (.t 141))),none,0⟩,
⟨(some 143),(.q (.mv (.t 4))),(some (142,true)),0⟩,
⟨(some 144),(.q (.bin .eql (.p .int) (.t 143) (.c (.int .i64 (.ofNat 2))))),(some (142,true)),0⟩,
⟨(some 145),(.q (.pick (.t 142) (.t 144) (.c (.bool false)))),none,0⟩,
⟨(some 146),(.q (.mv (.t 145))),none,0⟩,
⟨(some 147),(.x (.call (.c (.fn 7 [] [])) [])),(some (146,true)),0⟩,
⟨(some 148),(.q (.pick (.t 146) (.t 147) (.c (.bool false)))),none,0⟩,
⟨(some 0),(.q (.mv (.t 148))),none,0⟩])
noncomputable def s14 : AC :=
.ret
theorem body : cFn Tryz.prog Tryz.f4 = some ⟨149, [(.t 0)], (.seq s0 (.seq s1 (.seq s2 (.seq s3 (.seq s4 (.seq s5 (.seq s6 (.seq s7 (.seq s8 (.seq s9 (.seq s10 (.seq s11 (.seq s12 (.seq s13 s14))))))))))))))⟩ := by kernel_rfl
end Go.Proofs.YtiiplmagnlcpbaaGreatDoor.dealKnown
