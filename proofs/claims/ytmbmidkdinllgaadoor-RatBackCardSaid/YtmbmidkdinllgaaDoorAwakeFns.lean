/- Awake: the table of functions; the statements of the law. -/
import Derived.Test.YtmbmidkdinllgaaDoorAwakeIr0
import Derived.Test.YtmbmidkdinllgaaDoorIr0
import Derived.Test.YtmbmidkdinllgaaDoorIr1
import Derived.Test.YtmbmidkdinllgaaDoorIr2
import Derived.Test.YtmbmidkdinllgaaDoorIr3
namespace Go.Ev.Gl
end Go.Ev.Gl
namespace Go.Proofs.YtmbmidkdinllgaaDoor.awake
open Go.Ev Go.Ev.Gl
set_option maxRecDepth 100000
noncomputable def fnsL : List (Nat × AFn) := [(12, a12), (14, a14), (16, a16), (18, a18), (19, a19), (22, a22), (26, a26), (31, a31), (38, a38), (45, a45), (49, a49), (50, a50), (51, a51), (52, a52), (53, a53), (54, a54), (55, a55), (60, a60), (61, a61), (62, a62), (63, a63), (64, a64), (65, a65), (66, a66), (67, a67), (74, a74), (75, a75), (79, a79), (81, a81), (82, a82), (87, a87), (91, a91), (96, a96), (97, a97), (98, a98), (99, a99), (100, a100), (101, a101), (103, a103), (104, a104), (105, a105), (106, a106), (107, a107), (108, a108), (113, a113), (114, a114), (115, a115), (116, a116), (119, a119), (120, a120), (122, a122), (127, a127), (128, a128), (129, a129), (130, a130), (131, a131), (132, a132), (134, a134), (135, a135), (136, a136), (137, a137), (142, a142), (143, a143)]
theorem rows : ∀ p ∈ fnsL, Row Tryd.prog p := by
  unfold fnsL
  refine List.forall_mem_cons.2 ⟨row12, ?_⟩
  refine List.forall_mem_cons.2 ⟨row14, ?_⟩
  refine List.forall_mem_cons.2 ⟨row16, ?_⟩
  refine List.forall_mem_cons.2 ⟨row18, ?_⟩
  refine List.forall_mem_cons.2 ⟨row19, ?_⟩
  refine List.forall_mem_cons.2 ⟨row22, ?_⟩
  refine List.forall_mem_cons.2 ⟨row26, ?_⟩
  refine List.forall_mem_cons.2 ⟨row31, ?_⟩
  refine List.forall_mem_cons.2 ⟨row38, ?_⟩
  refine List.forall_mem_cons.2 ⟨row45, ?_⟩
  refine List.forall_mem_cons.2 ⟨row49, ?_⟩
  refine List.forall_mem_cons.2 ⟨row50, ?_⟩
  refine List.forall_mem_cons.2 ⟨row51, ?_⟩
  refine List.forall_mem_cons.2 ⟨row52, ?_⟩
  refine List.forall_mem_cons.2 ⟨row53, ?_⟩
  refine List.forall_mem_cons.2 ⟨row54, ?_⟩
  refine List.forall_mem_cons.2 ⟨row55, ?_⟩
  refine List.forall_mem_cons.2 ⟨row60, ?_⟩
  refine List.forall_mem_cons.2 ⟨row61, ?_⟩
  refine List.forall_mem_cons.2 ⟨row62, ?_⟩
  refine List.forall_mem_cons.2 ⟨row63, ?_⟩
  refine List.forall_mem_cons.2 ⟨row64, ?_⟩
  refine List.forall_mem_cons.2 ⟨row65, ?_⟩
  refine List.forall_mem_cons.2 ⟨row66, ?_⟩
  refine List.forall_mem_cons.2 ⟨row67, ?_⟩
  refine List.forall_mem_cons.2 ⟨row74, ?_⟩
  refine List.forall_mem_cons.2 ⟨row75, ?_⟩
  refine List.forall_mem_cons.2 ⟨row79, ?_⟩
  refine List.forall_mem_cons.2 ⟨row81, ?_⟩
  refine List.forall_mem_cons.2 ⟨row82, ?_⟩
  refine List.forall_mem_cons.2 ⟨row87, ?_⟩
  refine List.forall_mem_cons.2 ⟨row91, ?_⟩
  refine List.forall_mem_cons.2 ⟨row96, ?_⟩
  refine List.forall_mem_cons.2 ⟨row97, ?_⟩
  refine List.forall_mem_cons.2 ⟨row98, ?_⟩
  refine List.forall_mem_cons.2 ⟨row99, ?_⟩
  refine List.forall_mem_cons.2 ⟨row100, ?_⟩
  refine List.forall_mem_cons.2 ⟨row101, ?_⟩
  refine List.forall_mem_cons.2 ⟨row103, ?_⟩
  refine List.forall_mem_cons.2 ⟨row104, ?_⟩
  refine List.forall_mem_cons.2 ⟨row105, ?_⟩
  refine List.forall_mem_cons.2 ⟨row106, ?_⟩
  refine List.forall_mem_cons.2 ⟨row107, ?_⟩
  refine List.forall_mem_cons.2 ⟨row108, ?_⟩
  refine List.forall_mem_cons.2 ⟨row113, ?_⟩
  refine List.forall_mem_cons.2 ⟨row114, ?_⟩
  refine List.forall_mem_cons.2 ⟨row115, ?_⟩
  refine List.forall_mem_cons.2 ⟨row116, ?_⟩
  refine List.forall_mem_cons.2 ⟨row119, ?_⟩
  refine List.forall_mem_cons.2 ⟨row120, ?_⟩
  refine List.forall_mem_cons.2 ⟨row122, ?_⟩
  refine List.forall_mem_cons.2 ⟨row127, ?_⟩
  refine List.forall_mem_cons.2 ⟨row128, ?_⟩
  refine List.forall_mem_cons.2 ⟨row129, ?_⟩
  refine List.forall_mem_cons.2 ⟨row130, ?_⟩
  refine List.forall_mem_cons.2 ⟨row131, ?_⟩
  refine List.forall_mem_cons.2 ⟨row132, ?_⟩
  refine List.forall_mem_cons.2 ⟨row134, ?_⟩
  refine List.forall_mem_cons.2 ⟨row135, ?_⟩
  refine List.forall_mem_cons.2 ⟨row136, ?_⟩
  refine List.forall_mem_cons.2 ⟨row137, ?_⟩
  refine List.forall_mem_cons.2 ⟨row142, ?_⟩
  refine List.forall_mem_cons.2 ⟨row143, ?_⟩
  intro p hp
  cases hp
theorem knows : Known Tryd.prog (table fnsL) := known_table (by kernel_rfl) rows
noncomputable def tabs : List (Nat × List AV) := [(2, [.int .u8 (.ofNat 0), .int .u8 (.ofNat 1), .int .u8 (.ofNat 56), .int .u8 (.ofNat 2), .int .u8 (.ofNat 57), .int .u8 (.ofNat 49), .int .u8 (.ofNat 28), .int .u8 (.ofNat 3), .int .u8 (.ofNat 61), .int .u8 (.ofNat 58), .int .u8 (.ofNat 42), .int .u8 (.ofNat 50), .int .u8 (.ofNat 38), .int .u8 (.ofNat 29), .int .u8 (.ofNat 17), .int .u8 (.ofNat 4), .int .u8 (.ofNat 62), .int .u8 (.ofNat 47), .int .u8 (.ofNat 59), .int .u8 (.ofNat 36), .int .u8 (.ofNat 45), .int .u8 (.ofNat 43), .int .u8 (.ofNat 51), .int .u8 (.ofNat 22), .int .u8 (.ofNat 53), .int .u8 (.ofNat 39), .int .u8 (.ofNat 33), .int .u8 (.ofNat 30), .int .u8 (.ofNat 24), .int .u8 (.ofNat 18), .int .u8 (.ofNat 12), .int .u8 (.ofNat 5), .int .u8 (.ofNat 63), .int .u8 (.ofNat 55), .int .u8 (.ofNat 48), .int .u8 (.ofNat 27), .int .u8 (.ofNat 60), .int .u8 (.ofNat 41), .int .u8 (.ofNat 37), .int .u8 (.ofNat 16), .int .u8 (.ofNat 46), .int .u8 (.ofNat 35), .int .u8 (.ofNat 44), .int .u8 (.ofNat 21), .int .u8 (.ofNat 52), .int .u8 (.ofNat 32), .int .u8 (.ofNat 23), .int .u8 (.ofNat 11), .int .u8 (.ofNat 54), .int .u8 (.ofNat 26), .int .u8 (.ofNat 40), .int .u8 (.ofNat 15), .int .u8 (.ofNat 34), .int .u8 (.ofNat 20), .int .u8 (.ofNat 31), .int .u8 (.ofNat 10), .int .u8 (.ofNat 25), .int .u8 (.ofNat 14), .int .u8 (.ofNat 19), .int .u8 (.ofNat 9), .int .u8 (.ofNat 13), .int .u8 (.ofNat 8), .int .u8 (.ofNat 7), .int .u8 (.ofNat 6)]), (1, [.int .u8 (.ofNat 48), .int .u8 (.ofNat 49), .int .u8 (.ofNat 50), .int .u8 (.ofNat 51), .int .u8 (.ofNat 52), .int .u8 (.ofNat 53), .int .u8 (.ofNat 54), .int .u8 (.ofNat 55), .int .u8 (.ofNat 56), .int .u8 (.ofNat 57)]), (0, [.int .i64 (.negSucc 0), .int .i64 (.ofNat 0), .int .i64 (.ofNat 1)])]
noncomputable def s0 : AC :=
(.reg [⟨(some 0),(.q (.mv (.c (.bool false)))),none,0⟩])
noncomputable def s1 : AC :=
(.reg [⟨(some 10),(.x (.call (.c (.fn 19 [] [])) [(.c (.int .i64 (.ofNat 1))),(.c (.int .i64 (.ofNat 2)))])),none,0⟩,
⟨(some 11),(.x (.call (.c (.fn 19 [] [])) [(.c (.int .i64 (.ofNat 1))),(.c (.int .i64 (.ofNat 3)))])),none,0⟩,
⟨(some 12),(.x (.call (.c (.fn 22 [] [])) [(.t 10),(.t 11)])),none,0⟩,
⟨(some 9),(.q (.mv (.t 12))),none,0⟩,
⟨(some 13),(.q (.extract (.t 9) 0)),none,0⟩,
⟨(some 14),(.q (.extract (.t 9) 1)),none,0⟩,
⟨(some 1),(.a (.alloc 25 [(.bool false),.nilsl,.nilsl])),none,0⟩,
⟨none,(.x (.st 3 (.t 1) (.t 13))),none,0⟩,
⟨(some 2),(.q (.mv (.t 14))),none,0⟩])
noncomputable def s2 : AC :=
(.reg [⟨(some 16),(.x (.call (.c (.fn 19 [] [])) [(.c (.int .i64 (.ofNat 2))),(.c (.int .i64 (.ofNat 3)))])),none,0⟩,
⟨(some 17),(.x (.call (.c (.fn 19 [] [])) [(.c (.int .i64 (.negSucc 2))),(.c (.int .i64 (.ofNat 4)))])),none,0⟩,
⟨(some 18),(.x (.call (.c (.fn 26 [] [])) [(.t 16),(.t 17)])),none,0⟩,
⟨(some 15),(.q (.mv (.t 18))),none,0⟩,
⟨(some 19),(.q (.extract (.t 15) 0)),none,0⟩,
⟨(some 20),(.q (.extract (.t 15) 1)),none,0⟩,
⟨(some 3),(.a (.alloc 25 [(.bool false),.nilsl,.nilsl])),none,0⟩,
⟨none,(.x (.st 3 (.t 3) (.t 19))),none,0⟩,
⟨(some 4),(.q (.mv (.t 20))),none,0⟩])
noncomputable def s3 : AC :=
(.reg [⟨(some 22),(.x (.call (.c (.fn 19 [] [])) [(.c (.int .i64 (.ofNat 1))),(.c (.int .i64 (.ofNat 3)))])),none,0⟩,
⟨(some 23),(.x (.call (.c (.fn 19 [] [])) [(.c (.int .i64 (.ofNat 1))),(.c (.int .i64 (.ofNat 2)))])),none,0⟩,
⟨(some 24),(.x (.call (.c (.fn 12 [] [])) [(.t 22),(.t 23)])),none,0⟩,
⟨(some 21),(.q (.mv (.t 24))),none,0⟩,
⟨(some 25),(.q (.extract (.t 21) 0)),none,0⟩,
⟨(some 26),(.q (.extract (.t 21) 1)),none,0⟩,
⟨(some 5),(.a (.alloc 25 [(.bool false),.nilsl,.nilsl])),none,0⟩,
⟨none,(.x (.st 3 (.t 5) (.t 25))),none,0⟩,
⟨(some 6),(.q (.mv (.t 26))),none,0⟩])
noncomputable def s4 : AC :=
(.reg [⟨(some 28),(.x (.call (.c (.fn 19 [] [])) [(.c (.int .i64 (.negSucc 0))),(.c (.int .i64 (.ofNat 3)))])),none,0⟩,
⟨(some 29),(.x (.call (.c (.fn 45 [] [])) [(.t 28),(.c (.int .i64 (.ofNat 100)))])),none,0⟩,
⟨(some 27),(.q (.mv (.t 29))),none,0⟩,
⟨(some 30),(.q (.extract (.t 27) 0)),none,0⟩,
⟨(some 31),(.q (.extract (.t 27) 1)),none,0⟩,
⟨(some 7),(.q (.mv (.t 30))),none,0⟩,
⟨(some 8),(.q (.mv (.t 31))),none,0⟩])
noncomputable def s5 : AC :=
(.reg [⟨(some 32),(.q (.ld true 3 (.t 1))),none,0⟩,
⟨(some 33),(.q (.mv (.t 2))),none,0⟩,
⟨(some 34),(.x (.call (.c (.fn 49 [] [])) [(.t 32),(.t 33),(.c (.int .i64 (.ofNat 5))),(.c (.int .i64 (.ofNat 6)))])),none,0⟩,
⟨(some 35),(.q (.mv (.t 34))),none,0⟩,
⟨(some 36),(.q (.ld true 3 (.t 3))),(some (35,true)),0⟩,
⟨(some 37),(.q (.mv (.t 4))),(some (35,true)),0⟩,
⟨(some 38),(.x (.call (.c (.fn 49 [] [])) [(.t 36),(.t 37),(.c (.int .i64 (.negSucc 0))),(.c (.int .i64 (.ofNat 2)))])),(some (35,true)),0⟩,
⟨(some 39),(.q (.pick (.t 35) (.t 38) (.c (.bool false)))),none,0⟩,
⟨(some 40),(.q (.mv (.t 39))),none,0⟩,
⟨(some 41),(.q (.ld true 3 (.t 5))),(some (40,true)),0⟩,
⟨(some 42),(.q (.mv (.t 6))),(some (40,true)),0⟩,
⟨(some 43),(.x (.call (.c (.fn 49 [] [])) [(.t 41),(.t 42),(.c (.int .i64 (.ofNat 1))),(.c (.int .i64 (.ofNat 2)))])),(some (40,true)),0⟩,
⟨(some 44),(.q (.pick (.t 40) (.t 43) (.c (.bool false)))),none,0⟩,
⟨(some 45),(.q (.mv (.t 44))),none,0⟩,
⟨(some 46),(.q (.mv (.t 7))),(some (45,true)),0⟩,
⟨(some 47),(.q (.bin .eql (.p .int) (.t 46) (.c (.int .i64 (.negSucc 33))))),(some (45,true)),0⟩,
⟨(some 48),(.q (.pick (.t 45) (.t 47) (.c (.bool false)))),none,0⟩,
⟨(some 49),(.q (.mv (.t 48))),none,0⟩,
⟨(some 50),(.q (.mv (.t 8))),(some (49,true)),0⟩,
⟨(some 51),(.q (.bin .eql (.p .int) (.t 50) (.c (.int .i64 (.ofNat 0))))),(some (49,true)),0⟩,
⟨(some 52),(.q (.pick (.t 49) (.t 51) (.c (.bool false)))),none,0⟩,
⟨(some 0),(.q (.mv (.t 52))),none,0⟩])
noncomputable def s6 : AC :=
.ret
theorem body : cFn Tryd.prog Tryd.f11 = some ⟨53, [(.t 0)], (.seq s0 (.seq s1 (.seq s2 (.seq s3 (.seq s4 (.seq s5 s6))))))⟩ := by kernel_rfl
end Go.Proofs.YtmbmidkdinllgaaDoor.awake
