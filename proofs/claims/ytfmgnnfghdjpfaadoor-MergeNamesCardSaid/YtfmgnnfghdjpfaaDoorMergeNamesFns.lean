/- MergeNames: the table of functions; the statements of the law. -/
import Derived.Test.YtfmgnnfghdjpfaaDoorMergeNamesIr0
import Derived.Test.YtfmgnnfghdjpfaaDoorMergeNamesIr1
import Derived.Test.YtfmgnnfghdjpfaaDoorMergeNamesIr2
import Derived.Test.YtfmgnnfghdjpfaaDoorMergeNamesIr3
namespace Go.Proofs.YtfmgnnfghdjpfaaDoor.mergeNames
open Go.Ev
set_option maxRecDepth 100000
noncomputable def fnsL : List (Nat × AFn) := [(6, a6), (8, a8), (10, a10), (12, a12), (14, a14), (15, a15), (16, a16), (19, a19), (20, a20), (21, a21), (22, a22), (23, a23), (24, a24), (25, a25), (26, a26), (29, a29), (31, a31), (33, a33), (34, a34), (37, a37), (38, a38), (39, a39), (40, a40), (41, a41), (42, a42), (43, a43), (44, a44), (45, a45), (46, a46), (50, a50), (51, a51), (52, a52), (53, a53), (54, a54), (56, a56), (60, a60), (61, a61), (62, a62), (63, a63), (64, a64), (65, a65), (66, a66), (67, a67), (68, a68), (69, a69), (70, a70), (71, a71), (72, a72), (73, a73), (75, a75), (76, a76), (77, a77), (78, a78), (79, a79), (80, a80), (81, a81), (82, a82), (83, a83), (84, a84), (85, a85), (86, a86), (87, a87), (88, a88), (89, a89), (90, a90), (91, a91), (92, a92), (93, a93), (94, a94), (95, a95), (96, a96), (97, a97), (98, a98), (99, a99), (100, a100), (101, a101), (102, a102), (103, a103), (104, a104), (105, a105), (106, a106), (107, a107), (108, a108), (109, a109), (110, a110), (111, a111), (112, a112), (113, a113), (114, a114), (115, a115), (116, a116)]
theorem rows : ∀ p ∈ fnsL, Row Tryd.prog p := by
  unfold fnsL
  refine List.forall_mem_cons.2 ⟨row6, ?_⟩
  refine List.forall_mem_cons.2 ⟨row8, ?_⟩
  refine List.forall_mem_cons.2 ⟨row10, ?_⟩
  refine List.forall_mem_cons.2 ⟨row12, ?_⟩
  refine List.forall_mem_cons.2 ⟨row14, ?_⟩
  refine List.forall_mem_cons.2 ⟨row15, ?_⟩
  refine List.forall_mem_cons.2 ⟨row16, ?_⟩
  refine List.forall_mem_cons.2 ⟨row19, ?_⟩
  refine List.forall_mem_cons.2 ⟨row20, ?_⟩
  refine List.forall_mem_cons.2 ⟨row21, ?_⟩
  refine List.forall_mem_cons.2 ⟨row22, ?_⟩
  refine List.forall_mem_cons.2 ⟨row23, ?_⟩
  refine List.forall_mem_cons.2 ⟨row24, ?_⟩
  refine List.forall_mem_cons.2 ⟨row25, ?_⟩
  refine List.forall_mem_cons.2 ⟨row26, ?_⟩
  refine List.forall_mem_cons.2 ⟨row29, ?_⟩
  refine List.forall_mem_cons.2 ⟨row31, ?_⟩
  refine List.forall_mem_cons.2 ⟨row33, ?_⟩
  refine List.forall_mem_cons.2 ⟨row34, ?_⟩
  refine List.forall_mem_cons.2 ⟨row37, ?_⟩
  refine List.forall_mem_cons.2 ⟨row38, ?_⟩
  refine List.forall_mem_cons.2 ⟨row39, ?_⟩
  refine List.forall_mem_cons.2 ⟨row40, ?_⟩
  refine List.forall_mem_cons.2 ⟨row41, ?_⟩
  refine List.forall_mem_cons.2 ⟨row42, ?_⟩
  refine List.forall_mem_cons.2 ⟨row43, ?_⟩
  refine List.forall_mem_cons.2 ⟨row44, ?_⟩
  refine List.forall_mem_cons.2 ⟨row45, ?_⟩
  refine List.forall_mem_cons.2 ⟨row46, ?_⟩
  refine List.forall_mem_cons.2 ⟨row50, ?_⟩
  refine List.forall_mem_cons.2 ⟨row51, ?_⟩
  refine List.forall_mem_cons.2 ⟨row52, ?_⟩
  refine List.forall_mem_cons.2 ⟨row53, ?_⟩
  refine List.forall_mem_cons.2 ⟨row54, ?_⟩
  refine List.forall_mem_cons.2 ⟨row56, ?_⟩
  refine List.forall_mem_cons.2 ⟨row60, ?_⟩
  refine List.forall_mem_cons.2 ⟨row61, ?_⟩
  refine List.forall_mem_cons.2 ⟨row62, ?_⟩
  refine List.forall_mem_cons.2 ⟨row63, ?_⟩
  refine List.forall_mem_cons.2 ⟨row64, ?_⟩
  refine List.forall_mem_cons.2 ⟨row65, ?_⟩
  refine List.forall_mem_cons.2 ⟨row66, ?_⟩
  refine List.forall_mem_cons.2 ⟨row67, ?_⟩
  refine List.forall_mem_cons.2 ⟨row68, ?_⟩
  refine List.forall_mem_cons.2 ⟨row69, ?_⟩
  refine List.forall_mem_cons.2 ⟨row70, ?_⟩
  refine List.forall_mem_cons.2 ⟨row71, ?_⟩
  refine List.forall_mem_cons.2 ⟨row72, ?_⟩
  refine List.forall_mem_cons.2 ⟨row73, ?_⟩
  refine List.forall_mem_cons.2 ⟨row75, ?_⟩
  refine List.forall_mem_cons.2 ⟨row76, ?_⟩
  refine List.forall_mem_cons.2 ⟨row77, ?_⟩
  refine List.forall_mem_cons.2 ⟨row78, ?_⟩
  refine List.forall_mem_cons.2 ⟨row79, ?_⟩
  refine List.forall_mem_cons.2 ⟨row80, ?_⟩
  refine List.forall_mem_cons.2 ⟨row81, ?_⟩
  refine List.forall_mem_cons.2 ⟨row82, ?_⟩
  refine List.forall_mem_cons.2 ⟨row83, ?_⟩
  refine List.forall_mem_cons.2 ⟨row84, ?_⟩
  refine List.forall_mem_cons.2 ⟨row85, ?_⟩
  refine List.forall_mem_cons.2 ⟨row86, ?_⟩
  refine List.forall_mem_cons.2 ⟨row87, ?_⟩
  refine List.forall_mem_cons.2 ⟨row88, ?_⟩
  refine List.forall_mem_cons.2 ⟨row89, ?_⟩
  refine List.forall_mem_cons.2 ⟨row90, ?_⟩
  refine List.forall_mem_cons.2 ⟨row91, ?_⟩
  refine List.forall_mem_cons.2 ⟨row92, ?_⟩
  refine List.forall_mem_cons.2 ⟨row93, ?_⟩
  refine List.forall_mem_cons.2 ⟨row94, ?_⟩
  refine List.forall_mem_cons.2 ⟨row95, ?_⟩
  refine List.forall_mem_cons.2 ⟨row96, ?_⟩
  refine List.forall_mem_cons.2 ⟨row97, ?_⟩
  refine List.forall_mem_cons.2 ⟨row98, ?_⟩
  refine List.forall_mem_cons.2 ⟨row99, ?_⟩
  refine List.forall_mem_cons.2 ⟨row100, ?_⟩
  refine List.forall_mem_cons.2 ⟨row101, ?_⟩
  refine List.forall_mem_cons.2 ⟨row102, ?_⟩
  refine List.forall_mem_cons.2 ⟨row103, ?_⟩
  refine List.forall_mem_cons.2 ⟨row104, ?_⟩
  refine List.forall_mem_cons.2 ⟨row105, ?_⟩
  refine List.forall_mem_cons.2 ⟨row106, ?_⟩
  refine List.forall_mem_cons.2 ⟨row107, ?_⟩
  refine List.forall_mem_cons.2 ⟨row108, ?_⟩
  refine List.forall_mem_cons.2 ⟨row109, ?_⟩
  refine List.forall_mem_cons.2 ⟨row110, ?_⟩
  refine List.forall_mem_cons.2 ⟨row111, ?_⟩
  refine List.forall_mem_cons.2 ⟨row112, ?_⟩
  refine List.forall_mem_cons.2 ⟨row113, ?_⟩
  refine List.forall_mem_cons.2 ⟨row114, ?_⟩
  refine List.forall_mem_cons.2 ⟨row115, ?_⟩
  refine List.forall_mem_cons.2 ⟨row116, ?_⟩
  intro p hp
  cases hp
theorem knows : Known Tryd.prog (table fnsL) := known_table (by kernel_rfl) rows
noncomputable def tabs : List (Nat × List AV) := [(1, [.int .u8 (.ofNat 0), .int .u8 (.ofNat 1), .int .u8 (.ofNat 28), .int .u8 (.ofNat 2), .int .u8 (.ofNat 29), .int .u8 (.ofNat 14), .int .u8 (.ofNat 24), .int .u8 (.ofNat 3), .int .u8 (.ofNat 30), .int .u8 (.ofNat 22), .int .u8 (.ofNat 20), .int .u8 (.ofNat 15), .int .u8 (.ofNat 25), .int .u8 (.ofNat 17), .int .u8 (.ofNat 4), .int .u8 (.ofNat 8), .int .u8 (.ofNat 31), .int .u8 (.ofNat 27), .int .u8 (.ofNat 13), .int .u8 (.ofNat 23), .int .u8 (.ofNat 21), .int .u8 (.ofNat 19), .int .u8 (.ofNat 16), .int .u8 (.ofNat 7), .int .u8 (.ofNat 26), .int .u8 (.ofNat 12), .int .u8 (.ofNat 18), .int .u8 (.ofNat 6), .int .u8 (.ofNat 11), .int .u8 (.ofNat 5), .int .u8 (.ofNat 10), .int .u8 (.ofNat 9)]), (2, [.int .u8 (.ofNat 0), .int .u8 (.ofNat 1), .int .u8 (.ofNat 56), .int .u8 (.ofNat 2), .int .u8 (.ofNat 57), .int .u8 (.ofNat 49), .int .u8 (.ofNat 28), .int .u8 (.ofNat 3), .int .u8 (.ofNat 61), .int .u8 (.ofNat 58), .int .u8 (.ofNat 42), .int .u8 (.ofNat 50), .int .u8 (.ofNat 38), .int .u8 (.ofNat 29), .int .u8 (.ofNat 17), .int .u8 (.ofNat 4), .int .u8 (.ofNat 62), .int .u8 (.ofNat 47), .int .u8 (.ofNat 59), .int .u8 (.ofNat 36), .int .u8 (.ofNat 45), .int .u8 (.ofNat 43), .int .u8 (.ofNat 51), .int .u8 (.ofNat 22), .int .u8 (.ofNat 53), .int .u8 (.ofNat 39), .int .u8 (.ofNat 33), .int .u8 (.ofNat 30), .int .u8 (.ofNat 24), .int .u8 (.ofNat 18), .int .u8 (.ofNat 12), .int .u8 (.ofNat 5), .int .u8 (.ofNat 63), .int .u8 (.ofNat 55), .int .u8 (.ofNat 48), .int .u8 (.ofNat 27), .int .u8 (.ofNat 60), .int .u8 (.ofNat 41), .int .u8 (.ofNat 37), .int .u8 (.ofNat 16), .int .u8 (.ofNat 46), .int .u8 (.ofNat 35), .int .u8 (.ofNat 44), .int .u8 (.ofNat 21), .int .u8 (.ofNat 52), .int .u8 (.ofNat 32), .int .u8 (.ofNat 23), .int .u8 (.ofNat 11), .int .u8 (.ofNat 54), .int .u8 (.ofNat 26), .int .u8 (.ofNat 40), .int .u8 (.ofNat 15), .int .u8 (.ofNat 34), .int .u8 (.ofNat 20), .int .u8 (.ofNat 31), .int .u8 (.ofNat 10), .int .u8 (.ofNat 25), .int .u8 (.ofNat 14), .int .u8 (.ofNat 19), .int .u8 (.ofNat 9), .int .u8 (.ofNat 13), .int .u8 (.ofNat 8), .int .u8 (.ofNat 7), .int .u8 (.ofNat 6)]), (0, [.int .u64 (.ofNat 1), .int .u64 (.ofNat 10), .int .u64 (.ofNat 100), .int .u64 (.ofNat 1000), .int .u64 (.ofNat 10000), .int .u64 (.ofNat 100000), .int .u64 (.ofNat 1000000), .int .u64 (.ofNat 10000000), .int .u64 (.ofNat 100000000), .int .u64 (.ofNat 1000000000), .int .u64 (.ofNat 10000000000), .int .u64 (.ofNat 100000000000), .int .u64 (.ofNat 1000000000000), .int .u64 (.ofNat 10000000000000), .int .u64 (.ofNat 100000000000000), .int .u64 (.ofNat 1000000000000000), .int .u64 (.ofNat 10000000000000000), .int .u64 (.ofNat 100000000000000000), .int .u64 (.ofNat 1000000000000000000), .int .u64 (.ofNat 10000000000000000000)])]
noncomputable def s0 : AC :=
(.reg [⟨(some 0),(.q (.mv (.c (.bool false)))),none,0⟩])
noncomputable def s1 : AC :=
(.seq (.reg [⟨(some 12),(.x (.call (.c (.fn 6 [] [])) [])),none,0⟩,
⟨(some 13),(.q (.un .not (.t 12))),none,0⟩])
(.cond (.t 13) (.seq (.reg [⟨(some 0),(.q (.mv (.c (.bool false)))),none,0⟩])
.ret) .skip))
noncomputable def s2 : AC :=
(.reg [⟨(some 15),(.x (.call (.c (.fn 21 [] [])) [])),none,0⟩,
⟨(some 16),(.x (.call (.c (.fn 8 [] [])) [(.t 15)])),none,0⟩,
⟨(some 14),(.q (.mv (.t 16))),none,0⟩,
⟨(some 17),(.q (.extract (.t 14) 0)),none,0⟩,
⟨(some 18),(.q (.extract (.t 14) 1)),none,0⟩,
⟨(some 1),(.q (.mv (.t 17))),none,0⟩,
⟨(some 2),(.q (.mv (.t 18))),none,0⟩])
noncomputable def s3 : AC :=
(.reg [⟨(some 20),(.x (.call (.c (.fn 23 [] [])) [])),none,0⟩,
⟨(some 21),(.x (.call (.c (.fn 22 [] [])) [(.t 20)])),none,0⟩,
⟨(some 19),(.q (.mv (.t 21))),none,0⟩,
⟨(some 22),(.q (.extract (.t 19) 0)),none,0⟩,
⟨(some 23),(.q (.extract (.t 19) 1)),none,0⟩,
⟨(some 3),(.q (.mv (.t 22))),none,0⟩,
⟨(some 4),(.q (.mv (.t 23))),none,0⟩])
noncomputable def s4 : AC :=
(.reg [⟨(some 25),(.x (.call (.c (.fn 23 [] [])) [])),none,0⟩,
⟨(some 26),(.x (.call (.c (.fn 24 [] [])) [(.t 25)])),none,0⟩,
⟨(some 24),(.q (.mv (.t 26))),none,0⟩,
⟨(some 27),(.q (.extract (.t 24) 0)),none,0⟩,
⟨(some 28),(.q (.extract (.t 24) 1)),none,0⟩,
⟨(some 5),(.q (.mv (.t 27))),none,0⟩,
⟨(some 6),(.q (.mv (.t 28))),none,0⟩])
noncomputable def s5 : AC :=
(.reg [⟨(some 30),(.x (.call (.c (.fn 23 [] [])) [])),none,0⟩,
⟨(some 31),(.x (.call (.c (.fn 19 [] [])) [(.t 30)])),none,0⟩,
⟨(some 29),(.q (.mv (.t 31))),none,0⟩,
⟨(some 32),(.q (.extract (.t 29) 0)),none,0⟩,
⟨(some 33),(.q (.extract (.t 29) 1)),none,0⟩,
⟨(some 7),(.a (.alloc 25 [(.int .i64 (.ofNat 0)),.nilsl,.nilsl])),none,0⟩,
⟨none,(.x (.st 3 (.t 7) (.t 32))),none,0⟩,
⟨(some 8),(.q (.mv (.t 33))),none,0⟩])
noncomputable def s6 : AC :=
(.reg [⟨(some 34),(.x (.call (.c (.fn 23 [] [])) [])),none,0⟩,
⟨(some 35),(.x (.call (.c (.fn 23 [] [])) [])),none,0⟩,
⟨(some 9),(.a (.alloc 32 [(.int .i64 (.ofNat 0)),.nilsl,.nilsl])),none,0⟩,
⟨(some 10),(.a (.alloc 32 [(.int .i64 (.ofNat 0)),.nilsl,.nilsl])),none,0⟩,
⟨none,(.x (.st 3 (.t 9) (.t 34))),none,0⟩,
⟨none,(.x (.st 3 (.t 10) (.t 35))),none,0⟩])
noncomputable def s7 : AC :=
(.drw [⟨(some 36),(.q (.faddr 1 (.t 9))),none,0⟩,
⟨(some 37),(.q (.ld false 1 (.t 36))),none,1⟩,
⟨(some 38),(.q (.faddr 1 (.t 9))),none,0⟩,
⟨(some 39),(.q (.ld false 1 (.t 38))),none,4⟩,
⟨(some 40),(.q (.faddr 1 (.t 9))),none,0⟩,
⟨(some 41),(.q (.ld false 1 (.t 40))),none,16⟩,
⟨(some 42),(.q (.iaddr (.slice 6) (.t 41) (.c (.int .i64 (.ofNat 3))))),none,48⟩,
⟨(some 43),(.q (.ld true 6 (.t 42))),none,112⟩,
⟨(some 44),(.q (.faddr 1 (.t 9))),none,0⟩,
⟨(some 45),(.q (.ld false 1 (.t 44))),none,256⟩,
⟨(some 46),(.q (.iaddr (.slice 6) (.t 45) (.c (.int .i64 (.ofNat 2))))),none,768⟩,
⟨(some 47),(.q (.ld true 6 (.t 46))),none,1792⟩,
⟨(some 48),(.q (.iaddr (.slice 6) (.t 37) (.c (.int .i64 (.ofNat 2))))),none,4083⟩,
⟨none,(.x (.st 6 (.t 48) (.t 43))),none,8179⟩,
⟨(some 49),(.q (.iaddr (.slice 6) (.t 39) (.c (.int .i64 (.ofNat 3))))),none,16383⟩,
⟨none,(.x (.st 6 (.t 49) (.t 47))),none,32767⟩])
noncomputable def s8 : AC :=
(.drw [⟨(some 50),(.q (.faddr 1 (.t 9))),none,0⟩,
⟨(some 51),(.q (.ld false 1 (.t 50))),none,1⟩,
⟨(some 52),(.q (.faddr 1 (.t 9))),none,0⟩,
⟨(some 53),(.q (.ld false 1 (.t 52))),none,4⟩,
⟨(some 54),(.a (.bslice 3 1 3 [(.int .i64 (.ofNat 0))] [(0,(.c (.int .i64 (.ofNat 3)))),(1,(.c (.int .i64 (.ofNat 1)))),(2,(.c (.int .i64 (.ofNat 1))))])),none,0⟩,
⟨(some 55),(.a (.bslice 3 1 2 [(.int .i64 (.ofNat 0))] [(0,(.c (.int .i64 (.ofNat 3)))),(1,(.c (.int .i64 (.ofNat 2))))])),none,0⟩,
⟨(some 56),(.q (.iaddr (.slice 6) (.t 51) (.c (.int .i64 (.ofNat 0))))),none,19⟩,
⟨(some 57),(.q (.faddr 3 (.t 56))),none,83⟩,
⟨none,(.x (.st 1 (.t 57) (.t 54))),none,211⟩,
⟨(some 58),(.q (.iaddr (.slice 6) (.t 53) (.c (.int .i64 (.ofNat 1))))),none,511⟩,
⟨(some 59),(.q (.faddr 3 (.t 58))),none,1023⟩,
⟨none,(.x (.st 1 (.t 59) (.t 55))),none,2047⟩])
noncomputable def s9 : AC :=
(.reg [⟨(some 60),(.q (.faddr 1 (.t 10))),none,0⟩,
⟨(some 61),(.q (.ld false 1 (.t 60))),none,0⟩,
⟨(some 62),(.q (.iaddr (.slice 6) (.t 61) (.c (.int .i64 (.ofNat 1))))),none,0⟩,
⟨(some 63),(.q (.faddr 3 (.t 62))),none,0⟩,
⟨(some 64),(.q (.ld false 1 (.t 63))),none,0⟩,
⟨(some 65),(.q (.iaddr (.slice 1) (.t 64) (.c (.int .i64 (.ofNat 0))))),none,0⟩,
⟨none,(.x (.st 1 (.t 65) (.c (.int .i64 (.ofNat 1))))),none,0⟩])
noncomputable def s10 : AC :=
(.drw [⟨(some 66),(.q (.mv (.t 2))),none,0⟩,
⟨(some 67),(.q (.bin .eql (.p .int) (.t 66) (.c (.int .i64 (.ofNat 0))))),none,1⟩,
⟨(some 68),(.q (.mv (.t 67))),none,3⟩,
⟨(some 69),(.q (.mv (.t 1))),(some (68,true)),7⟩,
⟨(some 70),(.a (.bslice 3 1 8 [(.int .i64 (.ofNat 0))] [(0,(.c (.int .i64 (.ofNat 2)))),(1,(.c (.int .i64 (.ofNat 0)))),(2,(.c (.int .i64 (.ofNat 1)))),(3,(.c (.int .i64 (.ofNat 0)))),(4,(.c (.int .i64 (.ofNat 0)))),(5,(.c (.int .i64 (.ofNat 1)))),(6,(.c (.int .i64 (.ofNat 0)))),(7,(.c (.int .i64 (.ofNat 0))))])),(some (68,true)),7⟩,
⟨(some 71),(.x (.call (.c (.fn 14 [] [])) [(.t 69),(.t 70)])),(some (68,true)),31⟩,
⟨(some 72),(.q (.pick (.t 68) (.t 71) (.c (.bool false)))),none,63⟩,
⟨(some 73),(.q (.mv (.t 72))),none,127⟩,
⟨(some 74),(.q (.mv (.t 4))),(some (73,true)),255⟩,
⟨(some 75),(.q (.bin .eql (.p .int) (.t 74) (.c (.int .i64 (.ofNat 0))))),(some (73,true)),511⟩,
⟨(some 76),(.q (.pick (.t 73) (.t 75) (.c (.bool false)))),none,1023⟩,
⟨(some 77),(.q (.mv (.t 76))),none,2047⟩,
⟨(some 78),(.q (.mv (.t 3))),(some (77,true)),4095⟩,
⟨(some 79),(.a (.bslice 3 1 4 [(.int .i64 (.ofNat 0))] [(0,(.c (.int .i64 (.ofNat 1)))),(1,(.c (.int .i64 (.ofNat 2)))),(2,(.c (.int .i64 (.ofNat 3)))),(3,(.c (.int .i64 (.ofNat 2))))])),(some (77,true)),4095⟩,
⟨(some 80),(.x (.call (.c (.fn 14 [] [])) [(.t 78),(.t 79)])),(some (77,true)),16383⟩,
⟨(some 81),(.q (.pick (.t 77) (.t 80) (.c (.bool false)))),none,32767⟩,
⟨(some 82),(.q (.mv (.t 81))),none,65535⟩,
⟨(some 83),(.q (.mv (.t 6))),(some (82,true)),131071⟩,
⟨(some 84),(.q (.bin .eql (.p .int) (.t 83) (.c (.int .i64 (.ofNat 0))))),(some (82,true)),262143⟩,
⟨(some 85),(.q (.pick (.t 82) (.t 84) (.c (.bool false)))),none,524287⟩,
⟨(some 86),(.q (.mv (.t 85))),none,1048575⟩,
⟨(some 87),(.q (.mv (.t 5))),(some (86,true)),2097151⟩,
⟨(some 88),(.q (.bin .eql (.p .int) (.t 87) (.c (.int .i64 (.ofNat 8))))),(some (86,true)),4194303⟩,
⟨(some 89),(.q (.pick (.t 86) (.t 88) (.c (.bool false)))),none,8388607⟩,
⟨(some 90),(.q (.mv (.t 89))),none,16777215⟩,
⟨(some 91),(.q (.mv (.t 8))),(some (90,true)),33554431⟩,
⟨(some 92),(.q (.bin .eql (.p .int) (.t 91) (.c (.int .i64 (.ofNat 0))))),(some (90,true)),67108863⟩,
⟨(some 93),(.q (.pick (.t 90) (.t 92) (.c (.bool false)))),none,134217727⟩,
⟨(some 94),(.q (.mv (.t 93))),none,268435455⟩,
⟨(some 95),(.q (.ld true 3 (.t 7))),(some (94,true)),536870911⟩,
⟨(some 96),(.x (.call (.c (.fn 21 [] [])) [])),(some (94,true)),536870911⟩,
⟨(some 97),(.x (.call (.c (.fn 16 [] [])) [(.t 95),(.t 96)])),(some (94,true)),2147483647⟩,
⟨(some 98),(.q (.pick (.t 94) (.t 97) (.c (.bool false)))),none,4294967295⟩,
⟨(some 11),(.q (.mv (.t 98))),none,8589934591⟩])
noncomputable def s11 : AC :=
(.reg [⟨(some 99),(.q (.mv (.t 11))),none,0⟩,
⟨(some 100),(.q (.mv (.t 99))),none,0⟩,
⟨(some 101),(.x (.call (.c (.fn 23 [] [])) [])),(some (100,true)),0⟩,
⟨(some 102),(.x (.call (.c (.fn 20 [] [])) [(.t 101)])),(some (100,true)),0⟩,
⟨(some 103),(.q (.bin .eql (.p .int) (.t 102) (.c (.int .i64 (.ofNat 0))))),(some (100,true)),0⟩,
⟨(some 104),(.q (.pick (.t 100) (.t 103) (.c (.bool false)))),none,0⟩,
⟨(some 105),(.q (.mv (.t 104))),none,0⟩,
⟨(some 106),(.q (.ld true 3 (.t 9))),(some (105,true)),0⟩,
⟨(some 107),(.x (.call (.c (.fn 20 [] [])) [(.t 106)])),(some (105,true)),0⟩,
⟨(some 108),(.q (.bin .eql (.p .int) (.t 107) (.c (.int .i64 (.ofNat 3))))),(some (105,true)),0⟩,
⟨(some 109),(.q (.pick (.t 105) (.t 108) (.c (.bool false)))),none,0⟩,
⟨(some 110),(.q (.mv (.t 109))),none,0⟩,
⟨(some 111),(.q (.build [(.int .i64 (.ofNat 0)),.nilsl,.nilsl] [(0,1,(.c (.int .i64 (.ofNat 1))))])),(some (110,true)),0⟩,
⟨(some 112),(.x (.call (.c (.fn 20 [] [])) [(.t 111)])),(some (110,true)),0⟩,
⟨(some 113),(.q (.bin .eql (.p .int) (.t 112) (.c (.int .i64 (.ofNat 3))))),(some (110,true)),0⟩,
⟨(some 114),(.q (.pick (.t 110) (.t 113) (.c (.bool false)))),none,0⟩,
⟨(some 115),(.q (.mv (.t 114))),none,0⟩,
⟨(some 116),(.q (.ld true 3 (.t 10))),(some (115,true)),0⟩,
⟨(some 117),(.x (.call (.c (.fn 20 [] [])) [(.t 116)])),(some (115,true)),0⟩,
⟨(some 118),(.q (.bin .eql (.p .int) (.t 117) (.c (.int .i64 (.ofNat 3))))),(some (115,true)),0⟩,
⟨(some 119),(.q (.pick (.t 115) (.t 118) (.c (.bool false)))),none,0⟩,
⟨(some 0),(.q (.mv (.t 119))),none,0⟩])
noncomputable def s12 : AC :=
.ret
theorem body : cFn Tryd.prog Tryd.f5 = some ⟨120, [(.t 0)], (.seq s0 (.seq s1 (.seq s2 (.seq s3 (.seq s4 (.seq s5 (.seq s6 (.seq s7 (.seq s8 (.seq s9 (.seq s10 (.seq s11 s12))))))))))))⟩ := by kernel_rfl
end Go.Proofs.YtfmgnnfghdjpfaaDoor.mergeNames
