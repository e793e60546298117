/- AbstractNames: the table of functions; the statements of the law. -/
import Derived.Test.YtfmgnnfghdjpfaaAbstractNamesIr0
import Derived.Test.YtfmgnnfghdjpfaaAbstractNamesIr1
import Derived.Test.YtfmgnnfghdjpfaaAbstractNamesIr2
import Derived.Test.YtfmgnnfghdjpfaaAbstractNamesIr3
namespace Go.Proofs.Ytfmgnnfghdjpfaa.abstractNames
open Go.Ev
set_option maxRecDepth 100000
noncomputable def fnsL : List (Nat × AFn) := [(8, a8), (9, a9), (17, a17), (19, a19), (20, a20), (21, a21), (22, a22), (23, a23), (24, a24), (25, a25), (31, a31), (32, a32), (33, a33), (46, a46), (47, a47), (48, a48), (49, a49), (50, a50), (56, a56), (57, a57), (58, a58), (59, a59), (60, a60), (61, a61), (62, a62), (72, a72), (73, a73), (74, a74), (75, a75), (76, a76), (77, a77), (78, a78), (79, a79), (80, a80), (81, a81), (88, a88), (89, a89), (90, a90), (91, a91), (92, a92), (97, a97), (98, a98), (99, a99), (100, a100), (101, a101), (102, a102), (103, a103), (104, a104), (105, a105), (106, a106), (107, a107), (108, a108), (109, a109), (110, a110), (111, a111), (112, a112), (113, a113), (114, a114), (115, a115), (116, a116), (117, a117), (118, a118), (119, a119)]
theorem rows : ∀ p ∈ fnsL, Row Try.prog p := by
  unfold fnsL
  refine List.forall_mem_cons.2 ⟨row8, ?_⟩
  refine List.forall_mem_cons.2 ⟨row9, ?_⟩
  refine List.forall_mem_cons.2 ⟨row17, ?_⟩
  refine List.forall_mem_cons.2 ⟨row19, ?_⟩
  refine List.forall_mem_cons.2 ⟨row20, ?_⟩
  refine List.forall_mem_cons.2 ⟨row21, ?_⟩
  refine List.forall_mem_cons.2 ⟨row22, ?_⟩
  refine List.forall_mem_cons.2 ⟨row23, ?_⟩
  refine List.forall_mem_cons.2 ⟨row24, ?_⟩
  refine List.forall_mem_cons.2 ⟨row25, ?_⟩
  refine List.forall_mem_cons.2 ⟨row31, ?_⟩
  refine List.forall_mem_cons.2 ⟨row32, ?_⟩
  refine List.forall_mem_cons.2 ⟨row33, ?_⟩
  refine List.forall_mem_cons.2 ⟨row46, ?_⟩
  refine List.forall_mem_cons.2 ⟨row47, ?_⟩
  refine List.forall_mem_cons.2 ⟨row48, ?_⟩
  refine List.forall_mem_cons.2 ⟨row49, ?_⟩
  refine List.forall_mem_cons.2 ⟨row50, ?_⟩
  refine List.forall_mem_cons.2 ⟨row56, ?_⟩
  refine List.forall_mem_cons.2 ⟨row57, ?_⟩
  refine List.forall_mem_cons.2 ⟨row58, ?_⟩
  refine List.forall_mem_cons.2 ⟨row59, ?_⟩
  refine List.forall_mem_cons.2 ⟨row60, ?_⟩
  refine List.forall_mem_cons.2 ⟨row61, ?_⟩
  refine List.forall_mem_cons.2 ⟨row62, ?_⟩
  refine List.forall_mem_cons.2 ⟨row72, ?_⟩
  refine List.forall_mem_cons.2 ⟨row73, ?_⟩
  refine List.forall_mem_cons.2 ⟨row74, ?_⟩
  refine List.forall_mem_cons.2 ⟨row75, ?_⟩
  refine List.forall_mem_cons.2 ⟨row76, ?_⟩
  refine List.forall_mem_cons.2 ⟨row77, ?_⟩
  refine List.forall_mem_cons.2 ⟨row78, ?_⟩
  refine List.forall_mem_cons.2 ⟨row79, ?_⟩
  refine List.forall_mem_cons.2 ⟨row80, ?_⟩
  refine List.forall_mem_cons.2 ⟨row81, ?_⟩
  refine List.forall_mem_cons.2 ⟨row88, ?_⟩
  refine List.forall_mem_cons.2 ⟨row89, ?_⟩
  refine List.forall_mem_cons.2 ⟨row90, ?_⟩
  refine List.forall_mem_cons.2 ⟨row91, ?_⟩
  refine List.forall_mem_cons.2 ⟨row92, ?_⟩
  refine List.forall_mem_cons.2 ⟨row97, ?_⟩
  refine List.forall_mem_cons.2 ⟨row98, ?_⟩
  refine List.forall_mem_cons.2 ⟨row99, ?_⟩
  refine List.forall_mem_cons.2 ⟨row100, ?_⟩
  refine List.forall_mem_cons.2 ⟨row101, ?_⟩
  refine List.forall_mem_cons.2 ⟨row102, ?_⟩
  refine List.forall_mem_cons.2 ⟨row103, ?_⟩
  refine List.forall_mem_cons.2 ⟨row104, ?_⟩
  refine List.forall_mem_cons.2 ⟨row105, ?_⟩
  refine List.forall_mem_cons.2 ⟨row106, ?_⟩
  refine List.forall_mem_cons.2 ⟨row107, ?_⟩
  refine List.forall_mem_cons.2 ⟨row108, ?_⟩
  refine List.forall_mem_cons.2 ⟨row109, ?_⟩
  refine List.forall_mem_cons.2 ⟨row110, ?_⟩
  refine List.forall_mem_cons.2 ⟨row111, ?_⟩
  refine List.forall_mem_cons.2 ⟨row112, ?_⟩
  refine List.forall_mem_cons.2 ⟨row113, ?_⟩
  refine List.forall_mem_cons.2 ⟨row114, ?_⟩
  refine List.forall_mem_cons.2 ⟨row115, ?_⟩
  refine List.forall_mem_cons.2 ⟨row116, ?_⟩
  refine List.forall_mem_cons.2 ⟨row117, ?_⟩
  refine List.forall_mem_cons.2 ⟨row118, ?_⟩
  refine List.forall_mem_cons.2 ⟨row119, ?_⟩
  intro p hp
  cases hp
theorem knows : Known Try.prog (table fnsL) := known_table (by kernel_rfl) rows
noncomputable def s0 : AC :=
(.reg [⟨(some 0),(.q (.mv (.c (.bool false)))),none,0⟩])
noncomputable def s1 : AC :=
(.seq (.reg [⟨(some 24),(.x (.call (.c (.fn 8 [] [])) [])),none,0⟩,
⟨(some 25),(.q (.un .not (.t 24))),none,0⟩])
(.cond (.t 25) (.seq (.reg [⟨(some 0),(.q (.mv (.c (.bool false)))),none,0⟩])
.ret) .skip))
noncomputable def s2 : AC :=
(.reg [⟨(some 26),(.q (.build [(.int .i64 (.ofNat 0)),(.int .i64 (.ofNat 0)),(.int .i64 (.ofNat 0)),(.int .i64 (.ofNat 0))] [(0,1,(.c (.int .i64 (.ofNat 3)))),(1,1,(.c (.int .i64 (.ofNat 4)))),(2,1,(.c (.int .i64 (.ofNat 3)))),(3,1,(.c (.int .i64 (.ofNat 4))))])),none,0⟩,
⟨(some 27),(.x (.call (.c (.fn 19 [] [])) [(.t 26)])),none,0⟩,
⟨(some 28),(.a (.bslice 3 1 7 [(.int .i64 (.ofNat 0))] [(0,(.c (.int .i64 (.ofNat 0)))),(1,(.c (.int .i64 (.ofNat 4)))),(2,(.c (.int .i64 (.ofNat 5)))),(3,(.c (.int .i64 (.ofNat 6)))),(4,(.c (.int .i64 (.ofNat 1)))),(5,(.c (.int .i64 (.ofNat 2)))),(6,(.c (.int .i64 (.ofNat 3))))])),none,0⟩,
⟨(some 29),(.a (.bslice 28 1 1 [.nilsl] [(0,(.t 28))])),none,0⟩,
⟨(some 1),(.a (.alloc 25 [(.int .i64 (.ofNat 0)),.nilsl,.nilsl])),none,0⟩,
⟨none,(.x (.st 3 (.t 1) (.t 27))),none,0⟩,
⟨(some 2),(.q (.mv (.t 29))),none,0⟩])
noncomputable def s3 : AC :=
(.reg [⟨(some 31),(.q (.ld true 3 (.t 1))),none,0⟩,
⟨(some 32),(.q (.mv (.t 2))),none,0⟩,
⟨(some 33),(.x (.call (.c (.fn 9 [] [])) [(.t 31),(.t 32)])),none,0⟩,
⟨(some 30),(.q (.mv (.t 33))),none,0⟩,
⟨(some 34),(.q (.extract (.t 30) 0)),none,0⟩,
⟨(some 35),(.q (.extract (.t 30) 1)),none,0⟩,
⟨(some 3),(.a (.alloc 30 [(.int .i64 (.ofNat 0)),.nilsl,.nilsl,.nilsl,.nilsl,.nilsl])),none,0⟩,
⟨none,(.x (.st 6 (.t 3) (.t 34))),none,0⟩,
⟨(some 4),(.q (.mv (.t 35))),none,0⟩])
noncomputable def s4 : AC :=
(.reg [⟨(some 37),(.q (.ld true 3 (.t 1))),none,0⟩,
⟨(some 38),(.x (.call (.c (.fn 9 [] [])) [(.t 37),(.c .nilsl)])),none,0⟩,
⟨(some 36),(.q (.mv (.t 38))),none,0⟩,
⟨(some 39),(.q (.extract (.t 36) 0)),none,0⟩,
⟨(some 40),(.q (.extract (.t 36) 1)),none,0⟩,
⟨(some 5),(.a (.alloc 30 [(.int .i64 (.ofNat 0)),.nilsl,.nilsl,.nilsl,.nilsl,.nilsl])),none,0⟩,
⟨none,(.x (.st 6 (.t 5) (.t 39))),none,0⟩,
⟨(some 6),(.q (.mv (.t 40))),none,0⟩])
noncomputable def s5 : AC :=
(.reg [⟨(some 41),(.q (.build [(.int .i64 (.ofNat 0)),(.int .i64 (.ofNat 0))] [(1,1,(.c (.int .i64 (.ofNat 2))))])),none,0⟩,
⟨(some 42),(.a (.bslice 46 2 1 [(.int .i64 (.ofNat 0)),(.int .i64 (.ofNat 0))] [(0,(.t 41))])),none,0⟩,
⟨(some 43),(.a (.bslice 3 1 2 [(.int .i64 (.ofNat 0))] [(0,(.c (.int .i64 (.ofNat 1)))),(1,(.c (.int .i64 (.ofNat 2))))])),none,0⟩,
⟨(some 44),(.q (.build [(.int .i64 (.ofNat 0)),(.int .i64 (.ofNat 0)),(.int .i64 (.ofNat 0)),.nilsl,.nilsl,.nilsl] [(0,1,(.c (.int .i64 (.ofNat 2)))),(3,1,(.t 43))])),none,0⟩,
⟨(some 45),(.a (.bslice 3 1 1 [(.int .i64 (.ofNat 0))] [(0,(.c (.int .i64 (.ofNat 5))))])),none,0⟩,
⟨(some 46),(.q (.build [(.int .i64 (.ofNat 0)),(.int .i64 (.ofNat 0)),(.int .i64 (.ofNat 0)),.nilsl,.nilsl,.nilsl] [(0,1,(.c (.int .i64 (.ofNat 3)))),(5,1,(.t 45))])),none,0⟩,
⟨(some 47),(.a (.bslice 3 1 1 [(.int .i64 (.ofNat 0))] [(0,(.c (.int .i64 (.ofNat 5))))])),none,0⟩,
⟨(some 48),(.q (.build [(.int .i64 (.ofNat 0)),(.int .i64 (.ofNat 0)),(.int .i64 (.ofNat 0)),.nilsl,.nilsl,.nilsl] [(0,1,(.c (.int .i64 (.ofNat 3)))),(5,1,(.t 47))])),none,0⟩,
⟨(some 49),(.a (.bslice 56 6 3 [(.int .i64 (.ofNat 0)),(.int .i64 (.ofNat 0)),(.int .i64 (.ofNat 0)),.nilsl,.nilsl,.nilsl] [(0,(.t 44)),(1,(.t 46)),(2,(.t 48))])),none,0⟩,
⟨(some 50),(.q (.build [(.int .i64 (.ofNat 0)),.nilsl,.nilsl] [(0,1,(.c (.int .i64 (.ofNat 1)))),(2,1,(.t 42)),(1,1,(.t 49))])),none,0⟩,
⟨(some 7),(.a (.alloc 25 [(.int .i64 (.ofNat 0)),.nilsl,.nilsl])),none,0⟩,
⟨none,(.x (.st 3 (.t 7) (.t 50))),none,0⟩])
noncomputable def s6 : AC :=
(.reg [⟨(some 52),(.q (.ld true 3 (.t 7))),none,0⟩,
⟨(some 53),(.a (.bslice 3 1 3 [(.int .i64 (.ofNat 0))] [(0,(.c (.int .i64 (.ofNat 0)))),(1,(.c (.int .i64 (.ofNat 2)))),(2,(.c (.int .i64 (.ofNat 1))))])),none,0⟩,
⟨(some 54),(.a (.bslice 28 1 1 [.nilsl] [(0,(.t 53))])),none,0⟩,
⟨(some 55),(.x (.call (.c (.fn 9 [] [])) [(.t 52),(.t 54)])),none,0⟩,
⟨(some 51),(.q (.mv (.t 55))),none,0⟩,
⟨(some 56),(.q (.extract (.t 51) 0)),none,0⟩,
⟨(some 57),(.q (.extract (.t 51) 1)),none,0⟩,
⟨(some 8),(.a (.alloc 30 [(.int .i64 (.ofNat 0)),.nilsl,.nilsl,.nilsl,.nilsl,.nilsl])),none,0⟩,
⟨none,(.x (.st 6 (.t 8) (.t 56))),none,0⟩,
⟨(some 9),(.q (.mv (.t 57))),none,0⟩])
noncomputable def s7 : AC :=
(.reg [⟨(some 58),(.q (.mv (.t 4))),none,0⟩,
⟨(some 59),(.q (.bin .eql (.p .int) (.t 58) (.c (.int .i64 (.ofNat 0))))),none,0⟩,
⟨(some 60),(.q (.mv (.t 59))),none,0⟩,
⟨(some 61),(.q (.faddr 0 (.t 3))),(some (60,true)),0⟩,
⟨(some 62),(.q (.faddr 1 (.t 61))),(some (60,true)),0⟩,
⟨(some 63),(.q (.ld false 1 (.t 62))),(some (60,true)),0⟩,
⟨(some 64),(.q (.lenSl (.t 63))),(some (60,true)),0⟩,
⟨(some 65),(.q (.bin .eql (.p .int) (.t 64) (.c (.int .i64 (.ofNat 7))))),(some (60,true)),0⟩,
⟨(some 66),(.q (.pick (.t 60) (.t 65) (.c (.bool false)))),none,0⟩,
⟨(some 67),(.q (.mv (.t 66))),none,0⟩,
⟨(some 68),(.q (.faddr 0 (.t 3))),(some (67,true)),0⟩,
⟨(some 69),(.q (.faddr 1 (.t 68))),(some (67,true)),0⟩,
⟨(some 70),(.q (.ld false 1 (.t 69))),(some (67,true)),0⟩,
⟨(some 71),(.q (.iaddr (.slice 6) (.t 70) (.c (.int .i64 (.ofNat 1))))),(some (67,true)),0⟩,
⟨(some 72),(.q (.faddr 2 (.t 71))),(some (67,true)),0⟩,
⟨(some 73),(.q (.ld false 1 (.t 72))),(some (67,true)),0⟩,
⟨(some 74),(.q (.bin .eql (.p .int) (.t 73) (.c (.int .i64 (.ofNat 0))))),(some (67,true)),0⟩,
⟨(some 75),(.q (.pick (.t 67) (.t 74) (.c (.bool false)))),none,0⟩,
⟨(some 76),(.q (.mv (.t 75))),none,0⟩,
⟨(some 77),(.q (.faddr 0 (.t 3))),(some (76,true)),0⟩,
⟨(some 78),(.q (.faddr 1 (.t 77))),(some (76,true)),0⟩,
⟨(some 79),(.q (.ld false 1 (.t 78))),(some (76,true)),0⟩,
⟨(some 80),(.q (.iaddr (.slice 6) (.t 79) (.c (.int .i64 (.ofNat 4))))),(some (76,true)),0⟩,
⟨(some 81),(.q (.faddr 2 (.t 80))),(some (76,true)),0⟩,
⟨(some 82),(.q (.ld false 1 (.t 81))),(some (76,true)),0⟩,
⟨(some 83),(.q (.bin .eql (.p .int) (.t 82) (.c (.int .i64 (.ofNat 0))))),(some (76,true)),0⟩,
⟨(some 84),(.q (.pick (.t 76) (.t 83) (.c (.bool false)))),none,0⟩,
⟨(some 85),(.q (.mv (.t 84))),none,0⟩,
⟨(some 86),(.q (.mv (.t 6))),(some (85,true)),0⟩,
⟨(some 87),(.q (.bin .eql (.p .int) (.t 86) (.c (.int .i64 (.ofNat 0))))),(some (85,true)),0⟩,
⟨(some 88),(.q (.pick (.t 85) (.t 87) (.c (.bool false)))),none,0⟩,
⟨(some 89),(.q (.mv (.t 88))),none,0⟩,
⟨(some 90),(.q (.faddr 3 (.t 5))),(some (89,true)),0⟩,
⟨(some 91),(.q (.ld false 1 (.t 90))),(some (89,true)),0⟩,
⟨(some 92),(.a (.bslice 3 1 2 [(.int .i64 (.ofNat 0))] [(0,(.c (.int .i64 (.ofNat 0)))),(1,(.c (.int .i64 (.ofNat 1))))])),(some (89,true)),0⟩,
⟨(some 93),(.x (.call (.c (.fn 17 [] [])) [(.t 91),(.t 92)])),(some (89,true)),0⟩,
⟨(some 94),(.q (.pick (.t 89) (.t 93) (.c (.bool false)))),none,0⟩,
⟨(some 95),(.q (.mv (.t 94))),none,0⟩,
⟨(some 96),(.q (.mv (.t 9))),(some (95,true)),0⟩,
⟨(some 97),(.q (.bin .eql (.p .int) (.t 96) (.c (.int .i64 (.ofNat 13))))),(some (95,true)),0⟩,
⟨(some 98),(.q (.pick (.t 95) (.t 97) (.c (.bool false)))),none,0⟩,
⟨(some 10),(.q (.mv (.t 98))),none,0⟩])
noncomputable def s8 : AC :=
(.reg [⟨(some 99),(.x (.call (.c (.fn 20 [] [])) [(.c (.int .u32 (.ofNat 1)))])),none,0⟩,
⟨(some 100),(.x (.call (.c (.fn 20 [] [])) [(.c (.int .u32 (.ofNat 2)))])),none,0⟩,
⟨(some 101),(.a (.bslice 60 3 2 [(.bool false),.nilsl,.nilsl] [(0,(.t 99)),(1,(.t 100))])),none,0⟩,
⟨(some 11),(.q (.mv (.t 101))),none,0⟩])
noncomputable def s9 : AC :=
(.reg [⟨(some 103),(.q (.ld true 3 (.t 1))),none,0⟩,
⟨(some 104),(.q (.mv (.t 2))),none,0⟩,
⟨(some 105),(.q (.mv (.t 11))),none,0⟩,
⟨(some 106),(.a (.bslice 63 1 1 [.nilsl] [(0,(.t 105))])),none,0⟩,
⟨(some 107),(.x (.call (.c (.fn 21 [] [])) [(.t 103),(.t 104),(.t 106)])),none,0⟩,
⟨(some 102),(.q (.mv (.t 107))),none,0⟩,
⟨(some 108),(.q (.extract (.t 102) 0)),none,0⟩,
⟨(some 109),(.q (.extract (.t 102) 1)),none,0⟩,
⟨(some 12),(.q (.mv (.t 108))),none,0⟩,
⟨(some 13),(.q (.mv (.t 109))),none,0⟩])
noncomputable def s10 : AC :=
(.reg [⟨(some 111),(.q (.ld true 3 (.t 1))),none,0⟩,
⟨(some 112),(.q (.mv (.t 2))),none,0⟩,
⟨(some 113),(.q (.mv (.t 11))),none,0⟩,
⟨(some 114),(.q (.mv (.t 11))),none,0⟩,
⟨(some 115),(.a (.bslice 63 1 2 [.nilsl] [(0,(.t 113)),(1,(.t 114))])),none,0⟩,
⟨(some 116),(.x (.call (.c (.fn 22 [] [])) [(.t 111),(.t 112),(.t 115)])),none,0⟩,
⟨(some 110),(.q (.mv (.t 116))),none,0⟩,
⟨(some 117),(.q (.extract (.t 110) 0)),none,0⟩,
⟨(some 118),(.q (.extract (.t 110) 1)),none,0⟩,
⟨(some 14),(.q (.mv (.t 117))),none,0⟩,
⟨(some 15),(.q (.mv (.t 118))),none,0⟩])
noncomputable def s11 : AC :=
(.drw [⟨(some 120),(.q (.ld true 3 (.t 1))),none,0⟩,
⟨(some 121),(.q (.mv (.t 2))),none,0⟩,
⟨(some 122),(.q (.mv (.t 11))),none,0⟩,
⟨(some 123),(.x (.call (.c (.fn 23 [] [])) [(.c (.int .u32 (.ofNat 0)))])),none,0⟩,
⟨(some 124),(.x (.call (.c (.fn 23 [] [])) [(.c (.int .u32 (.ofNat 1)))])),none,8⟩,
⟨(some 125),(.a (.bslice 60 3 2 [(.bool false),.nilsl,.nilsl] [(0,(.t 123)),(1,(.t 124))])),none,24⟩,
⟨(some 126),(.a (.bslice 63 1 2 [.nilsl] [(0,(.t 122)),(1,(.t 125))])),none,60⟩,
⟨(some 127),(.x (.call (.c (.fn 22 [] [])) [(.t 120),(.t 121),(.t 126)])),none,127⟩,
⟨(some 119),(.q (.mv (.t 127))),none,255⟩,
⟨(some 128),(.q (.extract (.t 119) 0)),none,511⟩,
⟨(some 129),(.q (.extract (.t 119) 1)),none,511⟩,
⟨(some 16),(.q (.mv (.t 128))),none,1023⟩,
⟨(some 17),(.q (.mv (.t 129))),none,4095⟩])
noncomputable def s12 : AC :=
(.reg [⟨(some 131),(.q (.ld true 3 (.t 1))),none,0⟩,
⟨(some 132),(.q (.mv (.t 2))),none,0⟩,
⟨(some 133),(.q (.mv (.t 11))),none,0⟩,
⟨(some 134),(.a (.bslice 63 1 1 [.nilsl] [(0,(.t 133))])),none,0⟩,
⟨(some 135),(.x (.call (.c (.fn 22 [] [])) [(.t 131),(.t 132),(.t 134)])),none,0⟩,
⟨(some 130),(.q (.mv (.t 135))),none,0⟩,
⟨(some 136),(.q (.extract (.t 130) 0)),none,0⟩,
⟨(some 137),(.q (.extract (.t 130) 1)),none,0⟩,
⟨(some 18),(.q (.mv (.t 136))),none,0⟩,
⟨(some 19),(.q (.mv (.t 137))),none,0⟩])
noncomputable def s13 : AC :=
(.reg [⟨(some 139),(.q (.ld true 3 (.t 1))),none,0⟩,
⟨(some 140),(.q (.mv (.t 2))),none,0⟩,
⟨(some 141),(.q (.mv (.t 11))),none,0⟩,
⟨(some 142),(.q (.mv (.t 11))),none,0⟩,
⟨(some 143),(.a (.bslice 63 1 2 [.nilsl] [(0,(.t 141)),(1,(.t 142))])),none,0⟩,
⟨(some 144),(.x (.call (.c (.fn 24 [] [])) [(.t 139),(.t 140),(.t 143)])),none,0⟩,
⟨(some 138),(.q (.mv (.t 144))),none,0⟩,
⟨(some 145),(.q (.extract (.t 138) 0)),none,0⟩,
⟨(some 146),(.q (.extract (.t 138) 1)),none,0⟩,
⟨(some 20),(.q (.mv (.t 145))),none,0⟩,
⟨(some 21),(.q (.mv (.t 146))),none,0⟩])
noncomputable def s14 : AC :=
(.drw [⟨(some 148),(.q (.ld true 3 (.t 1))),none,0⟩,
⟨(some 149),(.q (.mv (.t 2))),none,0⟩,
⟨(some 150),(.q (.mv (.t 11))),none,0⟩,
⟨(some 151),(.x (.call (.c (.fn 23 [] [])) [(.c (.int .u32 (.ofNat 0)))])),none,0⟩,
⟨(some 152),(.x (.call (.c (.fn 23 [] [])) [(.c (.int .u32 (.ofNat 1)))])),none,8⟩,
⟨(some 153),(.a (.bslice 60 3 2 [(.bool false),.nilsl,.nilsl] [(0,(.t 151)),(1,(.t 152))])),none,24⟩,
⟨(some 154),(.a (.bslice 63 1 2 [.nilsl] [(0,(.t 150)),(1,(.t 153))])),none,60⟩,
⟨(some 155),(.x (.call (.c (.fn 24 [] [])) [(.t 148),(.t 149),(.t 154)])),none,127⟩,
⟨(some 147),(.q (.mv (.t 155))),none,255⟩,
⟨(some 156),(.q (.extract (.t 147) 0)),none,511⟩,
⟨(some 157),(.q (.extract (.t 147) 1)),none,511⟩,
⟨(some 22),(.q (.mv (.t 156))),none,1023⟩,
⟨(some 23),(.q (.mv (.t 157))),none,4095⟩])
noncomputable def s15 : AC :=
(.reg [⟨(some 158),(.q (.mv (.t 10))),none,0⟩,
⟨(some 159),(.q (.mv (.t 158))),none,0⟩,
⟨(some 160),(.q (.mv (.t 13))),(some (159,true)),0⟩,
⟨(some 161),(.q (.bin .eql (.p .int) (.t 160) (.c (.int .i64 (.ofNat 0))))),(some (159,true)),0⟩,
⟨(some 162),(.q (.pick (.t 159) (.t 161) (.c (.bool false)))),none,0⟩,
⟨(some 163),(.q (.mv (.t 162))),none,0⟩,
⟨(some 164),(.q (.mv (.t 12))),(some (163,true)),0⟩,
⟨(some 165),(.q (.mv (.t 11))),(some (163,true)),0⟩,
⟨(some 166),(.q (.mv (.t 11))),(some (163,true)),0⟩,
⟨(some 167),(.a (.bslice 63 1 2 [.nilsl] [(0,(.t 165)),(1,(.t 166))])),(some (163,true)),0⟩,
⟨(some 168),(.x (.call (.c (.fn 25 [] [])) [(.t 164),(.t 167)])),(some (163,true)),0⟩,
⟨(some 169),(.q (.pick (.t 163) (.t 168) (.c (.bool false)))),none,0⟩,
⟨(some 170),(.q (.mv (.t 169))),none,0⟩,
⟨(some 171),(.q (.mv (.t 15))),(some (170,true)),0⟩,
⟨(some 172),(.q (.bin .eql (.p .int) (.t 171) (.c (.int .i64 (.ofNat 0))))),(some (170,true)),0⟩,
⟨(some 173),(.q (.pick (.t 170) (.t 172) (.c (.bool false)))),none,0⟩,
⟨(some 174),(.q (.mv (.t 173))),none,0⟩,
⟨(some 175),(.q (.mv (.t 14))),(some (174,true)),0⟩,
⟨(some 176),(.q (.mv (.t 11))),(some (174,true)),0⟩,
⟨(some 177),(.a (.bslice 63 1 1 [.nilsl] [(0,(.t 176))])),(some (174,true)),0⟩,
⟨(some 178),(.x (.call (.c (.fn 25 [] [])) [(.t 175),(.t 177)])),(some (174,true)),0⟩,
⟨(some 179),(.q (.pick (.t 174) (.t 178) (.c (.bool false)))),none,0⟩,
⟨(some 180),(.q (.mv (.t 179))),none,0⟩,
⟨(some 181),(.q (.mv (.t 17))),(some (180,true)),0⟩,
⟨(some 182),(.q (.bin .eql (.p .int) (.t 181) (.c (.int .i64 (.ofNat 18))))),(some (180,true)),0⟩,
⟨(some 183),(.q (.pick (.t 180) (.t 182) (.c (.bool false)))),none,0⟩,
⟨(some 184),(.q (.mv (.t 183))),none,0⟩,
⟨(some 185),(.q (.mv (.t 19))),(some (184,true)),0⟩,
⟨(some 186),(.q (.bin .eql (.p .int) (.t 185) (.c (.int .i64 (.ofNat 10))))),(some (184,true)),0⟩,
⟨(some 187),(.q (.pick (.t 184) (.t 186) (.c (.bool false)))),none,0⟩,
⟨(some 188),(.q (.mv (.t 187))),none,0⟩,
⟨(some 189),(.q (.mv (.t 20))),(some (188,true)),0⟩,
⟨(some 190),(.q (.pick (.t 188) (.t 189) (.c (.bool false)))),none,0⟩,
⟨(some 191),(.q (.mv (.t 190))),none,0⟩,
⟨(some 192),(.q (.mv (.t 21))),(some (191,true)),0⟩,
⟨(some 193),(.q (.bin .eql (.p .int) (.t 192) (.c (.int .i64 (.ofNat 0))))),(some (191,true)),0⟩,
⟨(some 194),(.q (.pick (.t 191) (.t 193) (.c (.bool false)))),none,0⟩,
⟨(some 195),(.q (.mv (.t 194))),none,0⟩,
⟨(some 196),(.q (.mv (.t 22))),(some (195,true)),0⟩,
⟨(some 197),(.q (.un .not (.t 196))),(some (195,true)),0⟩,
⟨(some 198),(.q (.pick (.t 195) (.t 197) (.c (.bool false)))),none,0⟩,
⟨(some 199),(.q (.mv (.t 198))),none,0⟩,
⟨(some 200),(.q (.mv (.t 23))),(some (199,true)),0⟩,
⟨(some 201),(.q (.bin .eql (.p .int) (.t 200) (.c (.int .i64 (.ofNat 0))))),(some (199,true)),0⟩,
⟨(some 202),(.q (.pick (.t 199) (.t 201) (.c (.bool false)))),none,0⟩,
⟨(some 0),(.q (.mv (.t 202))),none,0⟩])
noncomputable def s16 : AC :=
.ret
theorem body : cFn Try.prog Try.f5 = some ⟨203, [(.t 0)], (.seq s0 (.seq s1 (.seq s2 (.seq s3 (.seq s4 (.seq s5 (.seq s6 (.seq s7 (.seq s8 (.seq s9 (.seq s10 (.seq s11 (.seq s12 (.seq s13 (.seq s14 (.seq s15 s16))))))))))))))))⟩ := by kernel_rfl
end Go.Proofs.Ytfmgnnfghdjpfaa.abstractNames
