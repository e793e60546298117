/- Awake: the table of functions; the statements of the law. -/
import Derived.Test.YtffbfglbdghpaaaGreatDoorAwakeIr0
import Derived.Test.YtffbfglbdghpaaaGreatDoorIr0
import Derived.Test.YtffbfglbdghpaaaGreatDoorIr1
import Derived.Test.YtffbfglbdghpaaaGreatDoorIr2
import Derived.Test.YtffbfglbdghpaaaGreatDoorIr3
namespace Go.Ev.Gl
end Go.Ev.Gl
namespace Go.Proofs.YtffbfglbdghpaaaGreatDoor.awake
open Go.Ev Go.Ev.Gl
set_option maxRecDepth 100000
noncomputable def fnsL : List (Nat × AFn) := [(5, a5), (11, a11), (12, a12), (13, a13), (14, a14), (15, a15), (16, a16), (17, a17), (18, a18), (19, a19), (22, a22), (23, a23), (27, a27), (28, a28), (29, a29), (30, a30), (31, a31), (32, a32), (33, a33), (34, a34), (35, a35), (36, a36), (37, a37), (38, a38), (39, a39), (40, a40), (44, a44), (45, a45), (46, a46), (47, a47), (48, a48), (49, a49), (50, a50), (51, a51), (52, a52), (53, a53), (54, a54), (55, a55), (56, a56), (57, a57), (58, a58), (65, a65), (66, a66), (67, a67), (68, a68), (69, a69), (70, a70), (71, a71), (72, a72), (73, a73), (74, a74), (75, a75), (76, a76), (77, a77), (78, a78), (89, a89), (90, a90), (91, a91), (92, a92), (93, a93), (94, a94), (95, a95), (96, a96), (97, a97), (98, a98), (99, a99), (100, a100), (101, a101), (102, a102), (103, a103), (104, a104), (105, a105), (106, a106), (107, a107), (108, a108), (109, a109), (110, a110), (111, a111), (112, a112), (113, a113), (114, a114), (115, a115), (116, a116), (123, a123), (124, a124), (125, a125), (126, a126), (127, a127), (128, a128), (129, a129), (130, a130), (131, a131), (132, a132), (133, a133), (134, a134), (135, a135), (136, a136), (137, a137), (138, a138), (139, a139), (140, a140), (141, a141), (142, a142), (143, a143), (144, a144), (145, a145), (146, a146), (147, a147)]
theorem rows : ∀ p ∈ fnsL, Row Tryz.prog p := by
  unfold fnsL
  refine List.forall_mem_cons.2 ⟨row5, ?_⟩
  refine List.forall_mem_cons.2 ⟨row11, ?_⟩
  refine List.forall_mem_cons.2 ⟨row12, ?_⟩
  refine List.forall_mem_cons.2 ⟨row13, ?_⟩
  refine List.forall_mem_cons.2 ⟨row14, ?_⟩
  refine List.forall_mem_cons.2 ⟨row15, ?_⟩
  refine List.forall_mem_cons.2 ⟨row16, ?_⟩
  refine List.forall_mem_cons.2 ⟨row17, ?_⟩
  refine List.forall_mem_cons.2 ⟨row18, ?_⟩
  refine List.forall_mem_cons.2 ⟨row19, ?_⟩
  refine List.forall_mem_cons.2 ⟨row22, ?_⟩
  refine List.forall_mem_cons.2 ⟨row23, ?_⟩
  refine List.forall_mem_cons.2 ⟨row27, ?_⟩
  refine List.forall_mem_cons.2 ⟨row28, ?_⟩
  refine List.forall_mem_cons.2 ⟨row29, ?_⟩
  refine List.forall_mem_cons.2 ⟨row30, ?_⟩
  refine List.forall_mem_cons.2 ⟨row31, ?_⟩
  refine List.forall_mem_cons.2 ⟨row32, ?_⟩
  refine List.forall_mem_cons.2 ⟨row33, ?_⟩
  refine List.forall_mem_cons.2 ⟨row34, ?_⟩
  refine List.forall_mem_cons.2 ⟨row35, ?_⟩
  refine List.forall_mem_cons.2 ⟨row36, ?_⟩
  refine List.forall_mem_cons.2 ⟨row37, ?_⟩
  refine List.forall_mem_cons.2 ⟨row38, ?_⟩
  refine List.forall_mem_cons.2 ⟨row39, ?_⟩
  refine List.forall_mem_cons.2 ⟨row40, ?_⟩
  refine List.forall_mem_cons.2 ⟨row44, ?_⟩
  refine List.forall_mem_cons.2 ⟨row45, ?_⟩
  refine List.forall_mem_cons.2 ⟨row46, ?_⟩
  refine List.forall_mem_cons.2 ⟨row47, ?_⟩
  refine List.forall_mem_cons.2 ⟨row48, ?_⟩
  refine List.forall_mem_cons.2 ⟨row49, ?_⟩
  refine List.forall_mem_cons.2 ⟨row50, ?_⟩
  refine List.forall_mem_cons.2 ⟨row51, ?_⟩
  refine List.forall_mem_cons.2 ⟨row52, ?_⟩
  refine List.forall_mem_cons.2 ⟨row53, ?_⟩
  refine List.forall_mem_cons.2 ⟨row54, ?_⟩
  refine List.forall_mem_cons.2 ⟨row55, ?_⟩
  refine List.forall_mem_cons.2 ⟨row56, ?_⟩
  refine List.forall_mem_cons.2 ⟨row57, ?_⟩
  refine List.forall_mem_cons.2 ⟨row58, ?_⟩
  refine List.forall_mem_cons.2 ⟨row65, ?_⟩
  refine List.forall_mem_cons.2 ⟨row66, ?_⟩
  refine List.forall_mem_cons.2 ⟨row67, ?_⟩
  refine List.forall_mem_cons.2 ⟨row68, ?_⟩
  refine List.forall_mem_cons.2 ⟨row69, ?_⟩
  refine List.forall_mem_cons.2 ⟨row70, ?_⟩
  refine List.forall_mem_cons.2 ⟨row71, ?_⟩
  refine List.forall_mem_cons.2 ⟨row72, ?_⟩
  refine List.forall_mem_cons.2 ⟨row73, ?_⟩
  refine List.forall_mem_cons.2 ⟨row74, ?_⟩
  refine List.forall_mem_cons.2 ⟨row75, ?_⟩
  refine List.forall_mem_cons.2 ⟨row76, ?_⟩
  refine List.forall_mem_cons.2 ⟨row77, ?_⟩
  refine List.forall_mem_cons.2 ⟨row78, ?_⟩
  refine List.forall_mem_cons.2 ⟨row89, ?_⟩
  refine List.forall_mem_cons.2 ⟨row90, ?_⟩
  refine List.forall_mem_cons.2 ⟨row91, ?_⟩
  refine List.forall_mem_cons.2 ⟨row92, ?_⟩
  refine List.forall_mem_cons.2 ⟨row93, ?_⟩
  refine List.forall_mem_cons.2 ⟨row94, ?_⟩
  refine List.forall_mem_cons.2 ⟨row95, ?_⟩
  refine List.forall_mem_cons.2 ⟨row96, ?_⟩
  refine List.forall_mem_cons.2 ⟨row97, ?_⟩
  refine List.forall_mem_cons.2 ⟨row98, ?_⟩
  refine List.forall_mem_cons.2 ⟨row99, ?_⟩
  refine List.forall_mem_cons.2 ⟨row100, ?_⟩
  refine List.forall_mem_cons.2 ⟨row101, ?_⟩
  refine List.forall_mem_cons.2 ⟨row102, ?_⟩
  refine List.forall_mem_cons.2 ⟨row103, ?_⟩
  refine List.forall_mem_cons.2 ⟨row104, ?_⟩
  refine List.forall_mem_cons.2 ⟨row105, ?_⟩
  refine List.forall_mem_cons.2 ⟨row106, ?_⟩
  refine List.forall_mem_cons.2 ⟨row107, ?_⟩
  refine List.forall_mem_cons.2 ⟨row108, ?_⟩
  refine List.forall_mem_cons.2 ⟨row109, ?_⟩
  refine List.forall_mem_cons.2 ⟨row110, ?_⟩
  refine List.forall_mem_cons.2 ⟨row111, ?_⟩
  refine List.forall_mem_cons.2 ⟨row112, ?_⟩
  refine List.forall_mem_cons.2 ⟨row113, ?_⟩
  refine List.forall_mem_cons.2 ⟨row114, ?_⟩
  refine List.forall_mem_cons.2 ⟨row115, ?_⟩
  refine List.forall_mem_cons.2 ⟨row116, ?_⟩
  refine List.forall_mem_cons.2 ⟨row123, ?_⟩
  refine List.forall_mem_cons.2 ⟨row124, ?_⟩
  refine List.forall_mem_cons.2 ⟨row125, ?_⟩
  refine List.forall_mem_cons.2 ⟨row126, ?_⟩
  refine List.forall_mem_cons.2 ⟨row127, ?_⟩
  refine List.forall_mem_cons.2 ⟨row128, ?_⟩
  refine List.forall_mem_cons.2 ⟨row129, ?_⟩
  refine List.forall_mem_cons.2 ⟨row130, ?_⟩
  refine List.forall_mem_cons.2 ⟨row131, ?_⟩
  refine List.forall_mem_cons.2 ⟨row132, ?_⟩
  refine List.forall_mem_cons.2 ⟨row133, ?_⟩
  refine List.forall_mem_cons.2 ⟨row134, ?_⟩
  refine List.forall_mem_cons.2 ⟨row135, ?_⟩
  refine List.forall_mem_cons.2 ⟨row136, ?_⟩
  refine List.forall_mem_cons.2 ⟨row137, ?_⟩
  refine List.forall_mem_cons.2 ⟨row138, ?_⟩
  refine List.forall_mem_cons.2 ⟨row139, ?_⟩
  refine List.forall_mem_cons.2 ⟨row140, ?_⟩
  refine List.forall_mem_cons.2 ⟨row141, ?_⟩
  refine List.forall_mem_cons.2 ⟨row142, ?_⟩
  refine List.forall_mem_cons.2 ⟨row143, ?_⟩
  refine List.forall_mem_cons.2 ⟨row144, ?_⟩
  refine List.forall_mem_cons.2 ⟨row145, ?_⟩
  refine List.forall_mem_cons.2 ⟨row146, ?_⟩
  refine List.forall_mem_cons.2 ⟨row147, ?_⟩
  intro p hp
  cases hp
theorem knows : Known Tryz.prog (table fnsL) := known_table (by kernel_rfl) rows
noncomputable def tabs : List (Nat × List AV) := [(0, [.int .u8 (.ofNat 0), .int .u8 (.ofNat 1), .int .u8 (.ofNat 56), .int .u8 (.ofNat 2), .int .u8 (.ofNat 57), .int .u8 (.ofNat 49), .int .u8 (.ofNat 28), .int .u8 (.ofNat 3), .int .u8 (.ofNat 61), .int .u8 (.ofNat 58), .int .u8 (.ofNat 42), .int .u8 (.ofNat 50), .int .u8 (.ofNat 38), .int .u8 (.ofNat 29), .int .u8 (.ofNat 17), .int .u8 (.ofNat 4), .int .u8 (.ofNat 62), .int .u8 (.ofNat 47), .int .u8 (.ofNat 59), .int .u8 (.ofNat 36), .int .u8 (.ofNat 45), .int .u8 (.ofNat 43), .int .u8 (.ofNat 51), .int .u8 (.ofNat 22), .int .u8 (.ofNat 53), .int .u8 (.ofNat 39), .int .u8 (.ofNat 33), .int .u8 (.ofNat 30), .int .u8 (.ofNat 24), .int .u8 (.ofNat 18), .int .u8 (.ofNat 12), .int .u8 (.ofNat 5), .int .u8 (.ofNat 63), .int .u8 (.ofNat 55), .int .u8 (.ofNat 48), .int .u8 (.ofNat 27), .int .u8 (.ofNat 60), .int .u8 (.ofNat 41), .int .u8 (.ofNat 37), .int .u8 (.ofNat 16), .int .u8 (.ofNat 46), .int .u8 (.ofNat 35), .int .u8 (.ofNat 44), .int .u8 (.ofNat 21), .int .u8 (.ofNat 52), .int .u8 (.ofNat 32), .int .u8 (.ofNat 23), .int .u8 (.ofNat 11), .int .u8 (.ofNat 54), .int .u8 (.ofNat 26), .int .u8 (.ofNat 40), .int .u8 (.ofNat 15), .int .u8 (.ofNat 34), .int .u8 (.ofNat 20), .int .u8 (.ofNat 31), .int .u8 (.ofNat 10), .int .u8 (.ofNat 25), .int .u8 (.ofNat 14), .int .u8 (.ofNat 19), .int .u8 (.ofNat 9), .int .u8 (.ofNat 13), .int .u8 (.ofNat 8), .int .u8 (.ofNat 7), .int .u8 (.ofNat 6)])]
noncomputable def s0 : AC :=
(.reg [⟨(some 0),(.q (.mv (.c (.bool false)))),none,0⟩])
noncomputable def s1 : AC :=
(.reg [⟨(some 8),(.x (.call (.c (.fn 13 [] [])) [])),none,0⟩,
⟨(some 9),(.a (.bslice 3 1 2 [(.int .i64 (.ofNat 0))] [(0,(.c (.int .i64 (.ofNat 0)))),(1,(.c (.int .i64 (.ofNat 1))))])),none,0⟩,
⟨(some 10),(.x (.call (.c (.fn 12 [] [])) [(.t 8),(.t 9)])),none,0⟩,
⟨(some 7),(.q (.mv (.t 10))),none,0⟩,
⟨(some 11),(.q (.extract (.t 7) 0)),none,0⟩,
⟨(some 12),(.q (.extract (.t 7) 1)),none,0⟩,
⟨(some 1),(.q (.mv (.t 11))),none,0⟩,
⟨(some 2),(.q (.mv (.t 12))),none,0⟩])
noncomputable def s2 : AC :=
(.reg [⟨(some 14),(.x (.call (.c (.fn 15 [] [])) [])),none,0⟩,
⟨(some 15),(.x (.call (.c (.fn 14 [] [])) [(.t 14),(.c (.int .i64 (.ofNat 0)))])),none,0⟩,
⟨(some 13),(.q (.mv (.t 15))),none,0⟩,
⟨(some 16),(.q (.extract (.t 13) 0)),none,0⟩,
⟨(some 17),(.q (.extract (.t 13) 1)),none,0⟩,
⟨(some 3),(.q (.mv (.t 16))),none,0⟩,
⟨(some 4),(.q (.mv (.t 17))),none,0⟩])
noncomputable def s3 : AC :=
(.reg [⟨(some 19),(.a (.bslice 3 1 2 [(.int .i64 (.ofNat 0))] [(0,(.c (.int .i64 (.ofNat 2)))),(1,(.c (.int .i64 (.ofNat 3))))])),none,0⟩,
⟨(some 20),(.a (.bslice 3 1 2 [(.int .i64 (.ofNat 0))] [(0,(.c (.int .i64 (.ofNat 1)))),(1,(.c (.int .i64 (.ofNat 2))))])),none,0⟩,
⟨(some 21),(.x (.call (.c (.fn 5 [] [])) [(.t 19),(.t 20)])),none,0⟩,
⟨(some 18),(.q (.mv (.t 21))),none,0⟩,
⟨(some 22),(.q (.extract (.t 18) 0)),none,0⟩,
⟨(some 23),(.q (.extract (.t 18) 1)),none,0⟩,
⟨(some 5),(.q (.mv (.t 22))),none,0⟩,
⟨(some 6),(.q (.mv (.t 23))),none,0⟩])
noncomputable def s4 : AC :=
(.reg [⟨(some 24),(.q (.mv (.t 2))),none,0⟩,
⟨(some 25),(.q (.bin .eql (.p .int) (.t 24) (.c (.int .i64 (.ofNat 0))))),none,0⟩,
⟨(some 26),(.q (.mv (.t 25))),none,0⟩,
⟨(some 27),(.q (.mv (.t 1))),(some (26,true)),0⟩,
⟨(some 28),(.x (.call (.c (.fn 17 [] [])) [(.c (.int .i64 (.ofNat 3))),(.c (.int .i64 (.ofNat 2)))])),(some (26,true)),0⟩,
⟨(some 29),(.x (.call (.c (.fn 17 [] [])) [(.c (.int .i64 (.negSucc 2))),(.c (.int .i64 (.ofNat 2)))])),(some (26,true)),0⟩,
⟨(some 30),(.a (.bslice 48 3 2 [(.bool false),.nilsl,.nilsl] [(0,(.t 28)),(1,(.t 29))])),(some (26,true)),0⟩,
⟨(some 31),(.x (.call (.c (.fn 16 [] [])) [(.t 27),(.t 30)])),(some (26,true)),0⟩,
⟨(some 32),(.q (.pick (.t 26) (.t 31) (.c (.bool false)))),none,0⟩,
⟨(some 33),(.q (.mv (.t 32))),none,0⟩,
⟨(some 34),(.q (.mv (.t 4))),(some (33,true)),0⟩,
⟨(some 35),(.q (.bin .eql (.p .int) (.t 34) (.c (.int .i64 (.ofNat 0))))),(some (33,true)),0⟩,
⟨(some 36),(.q (.pick (.t 33) (.t 35) (.c (.bool false)))),none,0⟩,
⟨(some 37),(.q (.mv (.t 36))),none,0⟩,
⟨(some 38),(.q (.mv (.t 3))),(some (37,true)),0⟩,
⟨(some 39),(.a (.bslice 3 1 4 [(.int .i64 (.ofNat 0))] [(0,(.c (.int .i64 (.ofNat 0)))),(1,(.c (.int .i64 (.ofNat 0)))),(2,(.c (.int .i64 (.ofNat 2)))),(3,(.c (.int .i64 (.ofNat 3))))])),(some (37,true)),0⟩,
⟨(some 40),(.x (.call (.c (.fn 11 [] [])) [(.t 38),(.t 39)])),(some (37,true)),0⟩,
⟨(some 41),(.q (.pick (.t 37) (.t 40) (.c (.bool false)))),none,0⟩,
⟨(some 42),(.q (.mv (.t 41))),none,0⟩,
⟨(some 43),(.q (.mv (.t 6))),(some (42,true)),0⟩,
⟨(some 44),(.q (.bin .eql (.p .int) (.t 43) (.c (.int .i64 (.ofNat 0))))),(some (42,true)),0⟩,
⟨(some 45),(.q (.pick (.t 42) (.t 44) (.c (.bool false)))),none,0⟩,
⟨(some 46),(.q (.mv (.t 45))),none,0⟩,
⟨(some 47),(.q (.mv (.t 5))),(some (46,true)),0⟩,
⟨(some 48),(.q (.bin .eql (.p .int) (.t 47) (.c (.int .i64 (.ofNat 5))))),(some (46,true)),0⟩,
⟨(some 49),(.q (.pick (.t 46) (.t 48) (.c (.bool false)))),none,0⟩,
⟨(some 0),(.q (.mv (.t 49))),none,0⟩])
noncomputable def s5 : AC :=
.ret
theorem body : cFn Tryz.prog Tryz.f4 = some ⟨50, [(.t 0)], (.seq s0 (.seq s1 (.seq s2 (.seq s3 (.seq s4 s5)))))⟩ := by kernel_rfl
end Go.Proofs.YtffbfglbdghpaaaGreatDoor.awake
