/- Functions of the program as data of the evaluator, written by program; each is shown to be the compiler's result on the loaded function. -/
import Derived.Test.YtlnjemhkijkaoaaProg
import Derived.Test.YtlnjemhkijkaoaaEv8
import Derived.KernelRfl
namespace Go.Ev.Gl
set_option maxRecDepth 100000
noncomputable def a33 : AFn :=
⟨19,[(.t 2)],(.seq (.reg [oq 2 (.mv (ci 0))])
(.seq (.seq (.reg [mt 3 0,
oq 4 (bi .geq (.t 3) (.c (.int .u32 (.ofNat 65536))))])
(.cond (.t 4) (.seq (.reg [mt 5 0,
oq 6 (bi .shr (.t 5) (.c (.int .u64 (.ofNat 16)))),
mt 0 6])
(.reg [oq 2 (.mv (ci 16))])) .skip))
(.seq (.seq (.reg [mt 7 0,
oq 8 (bi .geq (.t 7) (.c (.int .u32 (.ofNat 256))))])
(.cond (.t 8) (.seq (.reg [mt 9 0,
oq 10 (bi .shr (.t 9) (.c (.int .u64 (.ofNat 8)))),
mt 0 10])
(.reg [mt 11 2,
oq 12 (bi .add (.t 11) (ci 8)),
mt 2 12])) .skip))
(.seq (.reg [mt 13 2,
mt 14 0,
oq 15 (.conv (.int .u8) (.t 14)),
oq 16 (.idxStr (.c (.str [0,1,2,2,3,3,3,3,4,4,4,4,4,4,4,4,5,5,5,5,5,5,5,5,5,5,5,5,5,5,5,5,6,6,6,6,6,6,6,6,6,6,6,6,6,6,6,6,6,6,6,6,6,6,6,6,6,6,6,6,6,6,6,6,7,7,7,7,7,7,7,7,7,7,7,7,7,7,7,7,7,7,7,7,7,7,7,7,7,7,7,7,7,7,7,7,7,7,7,7,7,7,7,7,7,7,7,7,7,7,7,7,7,7,7,7,7,7,7,7,7,7,7,7,7,7,7,7,8,8,8,8,8,8,8,8,8,8,8,8,8,8,8,8,8,8,8,8,8,8,8,8,8,8,8,8,8,8,8,8,8,8,8,8,8,8,8,8,8,8,8,8,8,8,8,8,8,8,8,8,8,8,8,8,8,8,8,8,8,8,8,8,8,8,8,8,8,8,8,8,8,8,8,8,8,8,8,8,8,8,8,8,8,8,8,8,8,8,8,8,8,8,8,8,8,8,8,8,8,8,8,8,8,8,8,8,8,8,8,8,8,8,8,8,8,8,8,8,8,8,8,8,8,8,8,8])) (.t 15)),
oq 17 (.conv (.int .i64) (.t 16)),
oq 18 (bi .add (.t 13) (.t 17)),
mt 2 18])
.ret))))⟩
theorem row33 : Row Go.Proofs.Try.prog (33, a33) := ⟨Go.Proofs.Try.f33, Go.Proofs.Try.func33, by kernel_rfl⟩
noncomputable def a34 : AFn :=
⟨25,[(.t 2)],(.seq (.reg [oq 2 (.mv (ci 0))])
(.seq (.seq (.reg [mt 3 0,
oq 4 (bi .geq (.t 3) (.c (.int .u64 (.ofNat 4294967296))))])
(.cond (.t 4) (.seq (.reg [mt 5 0,
oq 6 (bi .shr (.t 5) (.c (.int .u64 (.ofNat 32)))),
mt 0 6])
(.reg [oq 2 (.mv (ci 32))])) .skip))
(.seq (.seq (.reg [mt 7 0,
oq 8 (bi .geq (.t 7) (.c (.int .u64 (.ofNat 65536))))])
(.cond (.t 8) (.seq (.reg [mt 9 0,
oq 10 (bi .shr (.t 9) (.c (.int .u64 (.ofNat 16)))),
mt 0 10])
(.reg [mt 11 2,
oq 12 (bi .add (.t 11) (ci 16)),
mt 2 12])) .skip))
(.seq (.seq (.reg [mt 13 0,
oq 14 (bi .geq (.t 13) (.c (.int .u64 (.ofNat 256))))])
(.cond (.t 14) (.seq (.reg [mt 15 0,
oq 16 (bi .shr (.t 15) (.c (.int .u64 (.ofNat 8)))),
mt 0 16])
(.reg [mt 17 2,
oq 18 (bi .add (.t 17) (ci 8)),
mt 2 18])) .skip))
(.seq (.reg [mt 19 2,
mt 20 0,
oq 21 (.conv (.int .u8) (.t 20)),
oq 22 (.idxStr (.c (.str [0,1,2,2,3,3,3,3,4,4,4,4,4,4,4,4,5,5,5,5,5,5,5,5,5,5,5,5,5,5,5,5,6,6,6,6,6,6,6,6,6,6,6,6,6,6,6,6,6,6,6,6,6,6,6,6,6,6,6,6,6,6,6,6,7,7,7,7,7,7,7,7,7,7,7,7,7,7,7,7,7,7,7,7,7,7,7,7,7,7,7,7,7,7,7,7,7,7,7,7,7,7,7,7,7,7,7,7,7,7,7,7,7,7,7,7,7,7,7,7,7,7,7,7,7,7,7,7,8,8,8,8,8,8,8,8,8,8,8,8,8,8,8,8,8,8,8,8,8,8,8,8,8,8,8,8,8,8,8,8,8,8,8,8,8,8,8,8,8,8,8,8,8,8,8,8,8,8,8,8,8,8,8,8,8,8,8,8,8,8,8,8,8,8,8,8,8,8,8,8,8,8,8,8,8,8,8,8,8,8,8,8,8,8,8,8,8,8,8,8,8,8,8,8,8,8,8,8,8,8,8,8,8,8,8,8,8,8,8,8,8,8,8,8,8,8,8,8,8,8,8,8,8,8,8,8])) (.t 21)),
oq 23 (.conv (.int .i64) (.t 22)),
oq 24 (bi .add (.t 19) (.t 23)),
mt 2 24])
.ret)))))⟩
theorem row34 : Row Go.Proofs.Try.prog (34, a34) := ⟨Go.Proofs.Try.f34, Go.Proofs.Try.func34, by kernel_rfl⟩
noncomputable def a35 : AFn :=
⟨6,[(.t 2)],(.seq (.reg [oq 2 (.mv (.c (.bool false)))])
(.seq (.reg [mt 3 0,
mt 4 0,
oq 5 (bi .neq (.t 3) (.t 4)),
mt 2 5])
.ret))⟩
theorem row35 : Row Go.Proofs.Try.prog (35, a35) := ⟨Go.Proofs.Try.f35, Go.Proofs.Try.func35, by kernel_rfl⟩
noncomputable def a40 : AFn :=
⟨82,[],(.seq (.reg [mt 12 1,
mt 10 12])
(.block 0 (.loop (.block 1 (.seq (.reg [mt 13 10,
oq 14 (bi .mul (ci 2) (.t 13)),
oq 15 (bi .add (.t 14) (ci 1)),
mt 11 15])
(.seq (.seq (.reg [mt 16 11,
mt 17 2,
oq 18 (bi .geq (.t 16) (.t 17))])
(.cond (.t 18) (.exit 0) .skip))
(.seq (.seq (.drw [mt 19 11,
om 20 1 (bi .add (.t 19) (ci 1)),
mt 21 2,
om 22 7 (bi .lss (.t 20) (.t 21)),
om 23 15 (.mv (.t 22)),
og 24 23 true 31 (.mv (.t 4)),
og 25 23 true 31 (.mv (.t 0)),
og 26 23 true 31 (.mv (.t 3)),
og 27 23 true 31 (.mv (.t 11)),
og 28 23 true 415 (bi .add (.t 26) (.t 27)),
og 29 23 true 991 (.iaddr (.slice 3) (.t 25) (.t 28)),
og 30 23 true 2015 (.ld true 3 (.t 29)),
og 31 23 true 31 (.mv (.t 0)),
og 32 23 true 31 (.mv (.t 3)),
og 33 23 true 31 (.mv (.t 11)),
og 34 23 true 24607 (bi .add (.t 32) (.t 33)),
og 35 23 true 57375 (bi .add (.t 34) (ci 1)),
og 36 23 true 127007 (.iaddr (.slice 3) (.t 31) (.t 35)),
og 37 23 true 258079 (.ld true 3 (.t 36)),
⟨(some 38),(.x (.call (.t 24) [(.t 30),(.t 37)])),(some (23,true)),524287⟩,
og 39 23 true 1048575 (bi .lss (.t 38) (ci 0)),
om 40 2097151 (.pick (.t 23) (.t 39) (.c (.bool false)))])
(.cond (.t 40) (.reg [mt 41 11,
oq 42 (bi .add (.t 41) (ci 1)),
mt 11 42]) .skip))
(.seq (.seq (.drw [mt 43 4,
mt 44 0,
mt 45 3,
mt 46 10,
om 47 12 (bi .add (.t 45) (.t 46)),
om 48 30 (.iaddr (.slice 3) (.t 44) (.t 47)),
om 49 62 (.ld true 3 (.t 48)),
mt 50 0,
mt 51 3,
mt 52 11,
om 53 768 (bi .add (.t 51) (.t 52)),
om 54 1920 (.iaddr (.slice 3) (.t 50) (.t 53)),
om 55 3968 (.ld true 3 (.t 54)),
⟨(some 56),(.x (.call (.t 43) [(.t 49),(.t 55)])),none,8191⟩,
om 57 16383 (bi .lss (.t 56) (ci 0)),
om 58 32767 (.un .not (.t 57))])
(.cond (.t 58) .ret .skip))
(.seq (.drw [mt 59 0,
mt 60 3,
mt 61 10,
om 62 6 (bi .add (.t 60) (.t 61)),
mt 63 0,
mt 64 3,
mt 65 11,
om 66 96 (bi .add (.t 64) (.t 65)),
mt 67 0,
mt 68 3,
mt 69 11,
om 70 1536 (bi .add (.t 68) (.t 69)),
om 71 3840 (.iaddr (.slice 3) (.t 67) (.t 70)),
om 72 7936 (.ld true 3 (.t 71)),
mt 73 0,
mt 74 3,
mt 75 10,
om 76 98304 (bi .add (.t 74) (.t 75)),
om 77 245760 (.iaddr (.slice 3) (.t 73) (.t 76)),
om 78 507904 (.ld true 3 (.t 77)),
om 79 1048335 (.iaddr (.slice 3) (.t 59) (.t 62)),
⟨none,(.x (.st 3 (.t 79) (.t 72))),none,2096911⟩,
om 80 4194303 (.iaddr (.slice 3) (.t 63) (.t 66)),
⟨none,(.x (.st 3 (.t 80) (.t 78))),none,8388607⟩])
(.reg [mt 81 11,
mt 10 81]))))))))))⟩
theorem row40 : Row Go.Proofs.Try.prog (40, a40) := ⟨Go.Proofs.Try.f40, Go.Proofs.Try.func40, by kernel_rfl⟩
noncomputable def a41 : AFn :=
⟨7,[(.t 2)],(.seq (.reg [oq 2 (.mv (.c (.int .u64 (.ofNat 0))))])
(.seq (.reg [mt 3 0,
oq 4 (.conv (.int .u64) (.t 3)),
oc 5 22 [(.t 4)] 0,
oq 6 (bi .shl (.c (.int .u64 (.ofNat 1))) (.t 5)),
mt 2 6])
.ret))⟩
theorem row41 : Row Go.Proofs.Try.prog (41, a41) := ⟨Go.Proofs.Try.f41, Go.Proofs.Try.func41, by kernel_rfl⟩
noncomputable def a42 : AFn :=
⟨33,[(.t 2)],(.seq (.reg [oq 2 (.mv (.c (.int .u64 (.ofNat 0))))])
(.seq (.drw [mt 3 0,
om 4 1 (.nilchk (.t 3)),
om 5 3 (ld 4),
mt 6 0,
om 7 8 (.nilchk (.t 6)),
om 8 24 (ld 7),
om 9 56 (bi .shl (.t 8) (.c (.int .u64 (.ofNat 13)))),
om 10 127 (bi .xor (.t 5) (.t 9)),
om 11 255 (.nilchk (.t 3)),
⟨none,(.x (.st 1 (.t 11) (.t 10))),none,511⟩])
(.seq (.drw [mt 12 0,
om 13 1 (.nilchk (.t 12)),
om 14 3 (ld 13),
mt 15 0,
om 16 8 (.nilchk (.t 15)),
om 17 24 (ld 16),
om 18 56 (bi .shr (.t 17) (.c (.int .u64 (.ofNat 7)))),
om 19 127 (bi .xor (.t 14) (.t 18)),
om 20 255 (.nilchk (.t 12)),
⟨none,(.x (.st 1 (.t 20) (.t 19))),none,511⟩])
(.seq (.drw [mt 21 0,
om 22 1 (.nilchk (.t 21)),
om 23 3 (ld 22),
mt 24 0,
om 25 8 (.nilchk (.t 24)),
om 26 24 (ld 25),
om 27 56 (bi .shl (.t 26) (.c (.int .u64 (.ofNat 17)))),
om 28 127 (bi .xor (.t 23) (.t 27)),
om 29 255 (.nilchk (.t 21)),
⟨none,(.x (.st 1 (.t 29) (.t 28))),none,511⟩])
(.seq (.reg [mt 30 0,
oq 31 (.nilchk (.t 30)),
oq 32 (ld 31),
mt 2 32])
.ret)))))⟩
theorem row42 : Row Go.Proofs.Try.prog (42, a42) := ⟨Go.Proofs.Try.f42, Go.Proofs.Try.func42, by kernel_rfl⟩
noncomputable def a43 : AFn :=
⟨18,[(.t 8)],(.seq (.reg [oq 8 (.mv (ci 0))])
(.seq (.reg [mt 9 0,
mt 10 1,
oq 11 (bi .sub (.t 10) (ci 1)),
mt 12 1,
mt 13 1,
oq 14 (bi .add (.t 13) (ci 1)),
mt 15 2,
mt 16 3,
oc 17 44 [(.t 9),(.t 11),(.t 12),(.t 14),(.t 15),(.t 16)] 0,
mt 8 17])
.ret))⟩
theorem row43 : Row Go.Proofs.Try.prog (43, a43) := ⟨Go.Proofs.Try.f43, Go.Proofs.Try.func43, by kernel_rfl⟩
noncomputable def a44 : AFn :=
⟨41,[(.t 12)],(.seq (.reg [oq 12 (.mv (ci 0))])
(.seq (.reg [mt 14 0,
mt 15 1,
mt 16 2,
mt 17 4,
mt 18 5,
oc 19 49 [(.t 14),(.t 15),(.t 16),(.t 17),(.t 18)] 0,
mt 13 19,
oq 20 (.extract (.t 13) 0),
oq 21 (.extract (.t 13) 1),
mt 1 20,
mt 2 21])
(.seq (.reg [mt 23 0,
mt 24 2,
mt 25 3,
mt 26 4,
mt 27 5,
oc 28 49 [(.t 23),(.t 24),(.t 25),(.t 26),(.t 27)] 0,
mt 22 28,
oq 29 (.extract (.t 22) 0),
oq 30 (.extract (.t 22) 1),
mt 2 29,
mt 3 30])
(.seq (.reg [mt 32 0,
mt 33 1,
mt 34 2,
mt 35 4,
mt 36 5,
oc 37 49 [(.t 32),(.t 33),(.t 34),(.t 35),(.t 36)] 0,
mt 31 37,
oq 38 (.extract (.t 31) 0),
oq 39 (.extract (.t 31) 1),
mt 1 38,
mt 2 39])
(.seq (.reg [mt 40 2,
mt 12 40])
.ret)))))⟩
theorem row44 : Row Go.Proofs.Try.prog (44, a44) := ⟨Go.Proofs.Try.f44, Go.Proofs.Try.func44, by kernel_rfl⟩
noncomputable def a49 : AFn :=
⟨32,[(.t 10),(.t 11)],(.seq (.reg [oq 10 (.mv (ci 0)),
oq 11 (.mv (ci 0))])
(.seq (.seq (.drw [mt 12 4,
mt 13 0,
mt 14 2,
om 15 6 (.iaddr (.slice 3) (.t 13) (.t 14)),
om 16 14 (.ld true 3 (.t 15)),
mt 17 0,
mt 18 1,
om 19 96 (.iaddr (.slice 3) (.t 17) (.t 18)),
om 20 224 (.ld true 3 (.t 19)),
⟨(some 21),(.x (.call (.t 12) [(.t 16),(.t 20)])),none,511⟩,
om 22 1023 (bi .lss (.t 21) (ci 0))])
(.cond (.t 22) (.seq (.reg [mt 23 3,
oq 24 (.nilchk (.t 23)),
oq 25 (ld 24),
oq 26 (bi .add (.t 25) (ci 1)),
oq 27 (.nilchk (.t 23)),
⟨none,(.x (.st 1 (.t 27) (.t 26))),none,0⟩])
(.seq (.reg [mt 28 2,
mt 29 1,
mt 10 28,
mt 11 29])
.ret)) .skip))
(.seq (.reg [mt 30 1,
mt 31 2,
mt 10 30,
mt 11 31])
.ret)))⟩
theorem row49 : Row Go.Proofs.Try.prog (49, a49) := ⟨Go.Proofs.Try.f49, Go.Proofs.Try.func49, by kernel_rfl⟩
end Go.Ev.Gl
