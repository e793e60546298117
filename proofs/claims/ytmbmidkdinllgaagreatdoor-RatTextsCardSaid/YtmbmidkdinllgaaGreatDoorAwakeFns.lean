/- Awake: the table of functions; the statements of the law. -/
import Derived.Test.YtmbmidkdinllgaaGreatDoorAwakeIr0
import Derived.Test.YtmbmidkdinllgaaGreatDoorIr0
import Derived.Test.YtmbmidkdinllgaaGreatDoorIr1
import Derived.Test.YtmbmidkdinllgaaGreatDoorIr2
import Derived.Test.YtmbmidkdinllgaaGreatDoorIr3
namespace Go.Ev.Gl
end Go.Ev.Gl
namespace Go.Proofs.YtmbmidkdinllgaaGreatDoor.awake
open Go.Ev Go.Ev.Gl
set_option maxRecDepth 100000
noncomputable def fnsL : List (Nat × AFn) := [(10, a10), (11, a11), (12, a12), (13, a13), (14, a14), (15, a15), (16, a16), (17, a17), (19, a19), (27, a27), (31, a31), (32, a32), (33, a33), (34, a34), (35, a35), (36, a36), (37, a37), (38, a38), (39, a39), (40, a40), (41, a41), (42, a42), (43, a43), (44, a44), (45, a45), (46, a46), (47, a47), (48, a48), (49, a49), (50, a50), (57, a57), (58, a58), (59, a59), (60, a60), (61, a61), (64, a64), (65, a65), (66, a66), (67, a67), (68, a68), (69, a69), (70, a70), (71, a71), (72, a72), (73, a73), (74, a74), (75, a75), (76, a76), (77, a77), (78, a78), (80, a80), (84, a84), (85, a85), (86, a86), (90, a90), (91, a91), (92, a92), (93, a93), (94, a94), (95, a95), (96, a96), (101, a101), (102, a102)]
theorem rows : ∀ p ∈ fnsL, Row Tryz.prog p := by
  unfold fnsL
  refine List.forall_mem_cons.2 ⟨row10, ?_⟩
  refine List.forall_mem_cons.2 ⟨row11, ?_⟩
  refine List.forall_mem_cons.2 ⟨row12, ?_⟩
  refine List.forall_mem_cons.2 ⟨row13, ?_⟩
  refine List.forall_mem_cons.2 ⟨row14, ?_⟩
  refine List.forall_mem_cons.2 ⟨row15, ?_⟩
  refine List.forall_mem_cons.2 ⟨row16, ?_⟩
  refine List.forall_mem_cons.2 ⟨row17, ?_⟩
  refine List.forall_mem_cons.2 ⟨row19, ?_⟩
  refine List.forall_mem_cons.2 ⟨row27, ?_⟩
  refine List.forall_mem_cons.2 ⟨row31, ?_⟩
  refine List.forall_mem_cons.2 ⟨row32, ?_⟩
  refine List.forall_mem_cons.2 ⟨row33, ?_⟩
  refine List.forall_mem_cons.2 ⟨row34, ?_⟩
  refine List.forall_mem_cons.2 ⟨row35, ?_⟩
  refine List.forall_mem_cons.2 ⟨row36, ?_⟩
  refine List.forall_mem_cons.2 ⟨row37, ?_⟩
  refine List.forall_mem_cons.2 ⟨row38, ?_⟩
  refine List.forall_mem_cons.2 ⟨row39, ?_⟩
  refine List.forall_mem_cons.2 ⟨row40, ?_⟩
  refine List.forall_mem_cons.2 ⟨row41, ?_⟩
  refine List.forall_mem_cons.2 ⟨row42, ?_⟩
  refine List.forall_mem_cons.2 ⟨row43, ?_⟩
  refine List.forall_mem_cons.2 ⟨row44, ?_⟩
  refine List.forall_mem_cons.2 ⟨row45, ?_⟩
  refine List.forall_mem_cons.2 ⟨row46, ?_⟩
  refine List.forall_mem_cons.2 ⟨row47, ?_⟩
  refine List.forall_mem_cons.2 ⟨row48, ?_⟩
  refine List.forall_mem_cons.2 ⟨row49, ?_⟩
  refine List.forall_mem_cons.2 ⟨row50, ?_⟩
  refine List.forall_mem_cons.2 ⟨row57, ?_⟩
  refine List.forall_mem_cons.2 ⟨row58, ?_⟩
  refine List.forall_mem_cons.2 ⟨row59, ?_⟩
  refine List.forall_mem_cons.2 ⟨row60, ?_⟩
  refine List.forall_mem_cons.2 ⟨row61, ?_⟩
  refine List.forall_mem_cons.2 ⟨row64, ?_⟩
  refine List.forall_mem_cons.2 ⟨row65, ?_⟩
  refine List.forall_mem_cons.2 ⟨row66, ?_⟩
  refine List.forall_mem_cons.2 ⟨row67, ?_⟩
  refine List.forall_mem_cons.2 ⟨row68, ?_⟩
  refine List.forall_mem_cons.2 ⟨row69, ?_⟩
  refine List.forall_mem_cons.2 ⟨row70, ?_⟩
  refine List.forall_mem_cons.2 ⟨row71, ?_⟩
  refine List.forall_mem_cons.2 ⟨row72, ?_⟩
  refine List.forall_mem_cons.2 ⟨row73, ?_⟩
  refine List.forall_mem_cons.2 ⟨row74, ?_⟩
  refine List.forall_mem_cons.2 ⟨row75, ?_⟩
  refine List.forall_mem_cons.2 ⟨row76, ?_⟩
  refine List.forall_mem_cons.2 ⟨row77, ?_⟩
  refine List.forall_mem_cons.2 ⟨row78, ?_⟩
  refine List.forall_mem_cons.2 ⟨row80, ?_⟩
  refine List.forall_mem_cons.2 ⟨row84, ?_⟩
  refine List.forall_mem_cons.2 ⟨row85, ?_⟩
  refine List.forall_mem_cons.2 ⟨row86, ?_⟩
  refine List.forall_mem_cons.2 ⟨row90, ?_⟩
  refine List.forall_mem_cons.2 ⟨row91, ?_⟩
  refine List.forall_mem_cons.2 ⟨row92, ?_⟩
  refine List.forall_mem_cons.2 ⟨row93, ?_⟩
  refine List.forall_mem_cons.2 ⟨row94, ?_⟩
  refine List.forall_mem_cons.2 ⟨row95, ?_⟩
  refine List.forall_mem_cons.2 ⟨row96, ?_⟩
  refine List.forall_mem_cons.2 ⟨row101, ?_⟩
  refine List.forall_mem_cons.2 ⟨row102, ?_⟩
  intro p hp
  cases hp
theorem knows : Known Tryz.prog (table fnsL) := known_table (by kernel_rfl) rows
noncomputable def tabs : List (Nat × List AV) := [(3, [.int .u8 (.ofNat 0), .int .u8 (.ofNat 1), .int .u8 (.ofNat 56), .int .u8 (.ofNat 2), .int .u8 (.ofNat 57), .int .u8 (.ofNat 49), .int .u8 (.ofNat 28), .int .u8 (.ofNat 3), .int .u8 (.ofNat 61), .int .u8 (.ofNat 58), .int .u8 (.ofNat 42), .int .u8 (.ofNat 50), .int .u8 (.ofNat 38), .int .u8 (.ofNat 29), .int .u8 (.ofNat 17), .int .u8 (.ofNat 4), .int .u8 (.ofNat 62), .int .u8 (.ofNat 47), .int .u8 (.ofNat 59), .int .u8 (.ofNat 36), .int .u8 (.ofNat 45), .int .u8 (.ofNat 43), .int .u8 (.ofNat 51), .int .u8 (.ofNat 22), .int .u8 (.ofNat 53), .int .u8 (.ofNat 39), .int .u8 (.ofNat 33), .int .u8 (.ofNat 30), .int .u8 (.ofNat 24), .int .u8 (.ofNat 18), .int .u8 (.ofNat 12), .int .u8 (.ofNat 5), .int .u8 (.ofNat 63), .int .u8 (.ofNat 55), .int .u8 (.ofNat 48), .int .u8 (.ofNat 27), .int .u8 (.ofNat 60), .int .u8 (.ofNat 41), .int .u8 (.ofNat 37), .int .u8 (.ofNat 16), .int .u8 (.ofNat 46), .int .u8 (.ofNat 35), .int .u8 (.ofNat 44), .int .u8 (.ofNat 21), .int .u8 (.ofNat 52), .int .u8 (.ofNat 32), .int .u8 (.ofNat 23), .int .u8 (.ofNat 11), .int .u8 (.ofNat 54), .int .u8 (.ofNat 26), .int .u8 (.ofNat 40), .int .u8 (.ofNat 15), .int .u8 (.ofNat 34), .int .u8 (.ofNat 20), .int .u8 (.ofNat 31), .int .u8 (.ofNat 10), .int .u8 (.ofNat 25), .int .u8 (.ofNat 14), .int .u8 (.ofNat 19), .int .u8 (.ofNat 9), .int .u8 (.ofNat 13), .int .u8 (.ofNat 8), .int .u8 (.ofNat 7), .int .u8 (.ofNat 6)]), (0, [.int .u8 (.ofNat 48), .int .u8 (.ofNat 49), .int .u8 (.ofNat 50), .int .u8 (.ofNat 51), .int .u8 (.ofNat 52), .int .u8 (.ofNat 53), .int .u8 (.ofNat 54), .int .u8 (.ofNat 55), .int .u8 (.ofNat 56), .int .u8 (.ofNat 57)]), (1, [.int .i64 (.negSucc 0), .int .i64 (.ofNat 0), .int .i64 (.ofNat 1)])]
noncomputable def s0 : AC :=
(.reg [⟨(some 0),(.q (.mv (.c (.bool false)))),none,0⟩])
noncomputable def s1 : AC :=
(.reg [⟨(some 10),(.x (.call (.c (.fn 12 [] [])) [(.c (.int .i64 (.ofNat 1))),(.c (.int .i64 (.ofNat 2)))])),none,0⟩,
⟨(some 11),(.x (.call (.c (.fn 12 [] [])) [(.c (.int .i64 (.ofNat 1))),(.c (.int .i64 (.ofNat 3)))])),none,0⟩,
⟨(some 12),(.x (.call (.c (.fn 11 [] [])) [(.t 10),(.t 11)])),none,0⟩,
⟨(some 9),(.q (.mv (.t 12))),none,0⟩,
⟨(some 13),(.q (.extract (.t 9) 0)),none,0⟩,
⟨(some 14),(.q (.extract (.t 9) 1)),none,0⟩,
⟨(some 1),(.a (.alloc 25 [(.bool false),.nilsl,.nilsl])),none,0⟩,
⟨none,(.x (.st 3 (.t 1) (.t 13))),none,0⟩,
⟨(some 2),(.q (.mv (.t 14))),none,0⟩])
noncomputable def s2 : AC :=
(.reg [⟨(some 16),(.x (.call (.c (.fn 12 [] [])) [(.c (.int .i64 (.ofNat 2))),(.c (.int .i64 (.ofNat 3)))])),none,0⟩,
⟨(some 17),(.x (.call (.c (.fn 12 [] [])) [(.c (.int .i64 (.negSucc 2))),(.c (.int .i64 (.ofNat 4)))])),none,0⟩,
⟨(some 18),(.x (.call (.c (.fn 13 [] [])) [(.t 16),(.t 17)])),none,0⟩,
⟨(some 15),(.q (.mv (.t 18))),none,0⟩,
⟨(some 19),(.q (.extract (.t 15) 0)),none,0⟩,
⟨(some 20),(.q (.extract (.t 15) 1)),none,0⟩,
⟨(some 3),(.a (.alloc 25 [(.bool false),.nilsl,.nilsl])),none,0⟩,
⟨none,(.x (.st 3 (.t 3) (.t 19))),none,0⟩,
⟨(some 4),(.q (.mv (.t 20))),none,0⟩])
noncomputable def s3 : AC :=
(.reg [⟨(some 22),(.x (.call (.c (.fn 12 [] [])) [(.c (.int .i64 (.ofNat 1))),(.c (.int .i64 (.ofNat 3)))])),none,0⟩,
⟨(some 23),(.x (.call (.c (.fn 12 [] [])) [(.c (.int .i64 (.ofNat 1))),(.c (.int .i64 (.ofNat 2)))])),none,0⟩,
⟨(some 24),(.x (.call (.c (.fn 14 [] [])) [(.t 22),(.t 23)])),none,0⟩,
⟨(some 21),(.q (.mv (.t 24))),none,0⟩,
⟨(some 25),(.q (.extract (.t 21) 0)),none,0⟩,
⟨(some 26),(.q (.extract (.t 21) 1)),none,0⟩,
⟨(some 5),(.a (.alloc 25 [(.bool false),.nilsl,.nilsl])),none,0⟩,
⟨none,(.x (.st 3 (.t 5) (.t 25))),none,0⟩,
⟨(some 6),(.q (.mv (.t 26))),none,0⟩])
noncomputable def s4 : AC :=
(.reg [⟨(some 28),(.x (.call (.c (.fn 12 [] [])) [(.c (.int .i64 (.negSucc 0))),(.c (.int .i64 (.ofNat 3)))])),none,0⟩,
⟨(some 29),(.x (.call (.c (.fn 15 [] [])) [(.t 28),(.c (.int .i64 (.ofNat 100)))])),none,0⟩,
⟨(some 27),(.q (.mv (.t 29))),none,0⟩,
⟨(some 30),(.q (.extract (.t 27) 0)),none,0⟩,
⟨(some 31),(.q (.extract (.t 27) 1)),none,0⟩,
⟨(some 7),(.q (.mv (.t 30))),none,0⟩,
⟨(some 8),(.q (.mv (.t 31))),none,0⟩])
noncomputable def s5 : AC :=
(.reg [⟨(some 32),(.q (.ld true 3 (.t 1))),none,0⟩,
⟨(some 33),(.q (.mv (.t 2))),none,0⟩,
⟨(some 34),(.x (.call (.c (.fn 16 [] [])) [(.t 32),(.t 33),(.c (.int .i64 (.ofNat 5))),(.c (.int .i64 (.ofNat 6)))])),none,0⟩,
⟨(some 35),(.q (.mv (.t 34))),none,0⟩,
⟨(some 36),(.q (.ld true 3 (.t 3))),(some (35,true)),0⟩,
⟨(some 37),(.q (.mv (.t 4))),(some (35,true)),0⟩,
⟨(some 38),(.x (.call (.c (.fn 16 [] [])) [(.t 36),(.t 37),(.c (.int .i64 (.negSucc 0))),(.c (.int .i64 (.ofNat 2)))])),(some (35,true)),0⟩,
⟨(some 39),(.q (.pick (.t 35) (.t 38) (.c (.bool false)))),none,0⟩,
⟨(some 40),(.q (.mv (.t 39))),none,0⟩,
⟨(some 41),(.q (.ld true 3 (.t 5))),(some (40,true)),0⟩,
⟨(some 42),(.q (.mv (.t 6))),(some (40,true)),0⟩,
⟨(some 43),(.x (.call (.c (.fn 16 [] [])) [(.t 41),(.t 42),(.c (.int .i64 (.ofNat 1))),(.c (.int .i64 (.ofNat 2)))])),(some (40,true)),0⟩,
⟨(some 44),(.q (.pick (.t 40) (.t 43) (.c (.bool false)))),none,0⟩,
⟨(some 45),(.q (.mv (.t 44))),none,0⟩,
⟨(some 46),(.q (.mv (.t 7))),(some (45,true)),0⟩,
⟨(some 47),(.q (.bin .eql (.p .int) (.t 46) (.c (.int .i64 (.negSucc 33))))),(some (45,true)),0⟩,
⟨(some 48),(.q (.pick (.t 45) (.t 47) (.c (.bool false)))),none,0⟩,
⟨(some 49),(.q (.mv (.t 48))),none,0⟩,
⟨(some 50),(.q (.mv (.t 8))),(some (49,true)),0⟩,
⟨(some 51),(.q (.bin .eql (.p .int) (.t 50) (.c (.int .i64 (.ofNat 0))))),(some (49,true)),0⟩,
⟨(some 52),(.q (.pick (.t 49) (.t 51) (.c (.bool false)))),none,0⟩,
⟨(some 0),(.q (.mv (.t 52))),none,0⟩])
noncomputable def s6 : AC :=
.ret
theorem body : cFn Tryz.prog Tryz.f5 = some ⟨53, [(.t 0)], (.seq s0 (.seq s1 (.seq s2 (.seq s3 (.seq s4 (.seq s5 s6))))))⟩ := by kernel_rfl
end Go.Proofs.YtmbmidkdinllgaaGreatDoor.awake
