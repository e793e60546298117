import Derived.Test.YtoojnpjgnnpllaaGl22
import Derived.Test.YtoojnpjgnnpllaaLives14Run
namespace Go.Proofs.Ytoojnpjgnnpllaa.symmetryFollows
open Go.Ev Go.Ev.Gl
set_option maxRecDepth 100000
def tz : List (Nat × List (IntKind × Int)) := []
theorem aKj : lives14.tabs = tz.map fun x => (x.1, x.2.map fun y => AV.int y.1 y.2) := by kernel_rfl
theorem aM1 : ∀ x ∈ tz, x.1 < Try.prog.globals.size ∧ x.2 ≠ [] := fun x hx => by cases hx
noncomputable def aAb : List (Nat × eJ) := (14, xN (lH tz)) :: [(4, a4), (15, a15), (16, a16), (17, a17), (19, a19), (21, a21), (22, a22), (23, a23), (24, a24), (37, a37), (38, a38), (41, a41), (63, a63), (67, a67), (68, a68), (69, a69), (70, a70), (71, a71), (86, a86), (114, a114), (115, a115), (116, a116), (119, a119), (128, a128), (129, a129), (130, a130), (131, a131), (151, a151), (152, a152), (153, a153), (154, a154), (155, a155), (156, a156), (157, a157), (158, a158), (159, a159), (162, a162), (163, a163), (164, a164), (165, a165), (173, a173), (174, a174), (175, a175), (176, a176), (177, a177), (180, a180), (181, a181), (182, a182), (183, a183), (184, a184), (185, a185), (186, a186)]
theorem knows : sB Try.prog (table aAb) := by
 refine aC9 (by kernel_rfl) ?_
 have hf : aGs Try.prog (table aAb) 14 (xN (lH tz)) := aBW Try.func14 lives14.body aKj aM1 lives14.good
 have e : aAb = (14, xN (lH tz)) :: [(4, a4), (15, a15), (16, a16), (17, a17), (19, a19), (21, a21), (22, a22), (23, a23), (24, a24), (37, a37), (38, a38), (41, a41), (63, a63), (67, a67), (68, a68), (69, a69), (70, a70), (71, a71), (86, a86), (114, a114), (115, a115), (116, a116), (119, a119), (128, a128), (129, a129), (130, a130), (131, a131), (151, a151), (152, a152), (153, a153), (154, a154), (155, a155), (156, a156), (157, a157), (158, a158), (159, a159), (162, a162), (163, a163), (164, a164), (165, a165), (173, a173), (174, a174), (175, a175), (176, a176), (177, a177), (180, a180), (181, a181), (182, a182), (183, a183), (184, a184), (185, a185), (186, a186)] := rfl
 generalize table aAb = t at hf ⊢
 rw [e]
 refine Ag.2 ⟨.inr hf, ?_⟩
 refine Ag.2 ⟨.inl row4, ?_⟩
 refine Ag.2 ⟨.inl row15, ?_⟩
 refine Ag.2 ⟨.inl row16, ?_⟩
 refine Ag.2 ⟨.inl row17, ?_⟩
 refine Ag.2 ⟨.inl row19, ?_⟩
 refine Ag.2 ⟨.inl row21, ?_⟩
 refine Ag.2 ⟨.inl row22, ?_⟩
 refine Ag.2 ⟨.inl row23, ?_⟩
 refine Ag.2 ⟨.inl row24, ?_⟩
 refine Ag.2 ⟨.inl row37, ?_⟩
 refine Ag.2 ⟨.inl row38, ?_⟩
 refine Ag.2 ⟨.inl row41, ?_⟩
 refine Ag.2 ⟨.inl row63, ?_⟩
 refine Ag.2 ⟨.inl row67, ?_⟩
 refine Ag.2 ⟨.inl row68, ?_⟩
 refine Ag.2 ⟨.inl row69, ?_⟩
 refine Ag.2 ⟨.inl row70, ?_⟩
 refine Ag.2 ⟨.inl row71, ?_⟩
 refine Ag.2 ⟨.inl row86, ?_⟩
 refine Ag.2 ⟨.inl row114, ?_⟩
 refine Ag.2 ⟨.inl row115, ?_⟩
 refine Ag.2 ⟨.inl row116, ?_⟩
 refine Ag.2 ⟨.inl row119, ?_⟩
 refine Ag.2 ⟨.inl row128, ?_⟩
 refine Ag.2 ⟨.inl row129, ?_⟩
 refine Ag.2 ⟨.inl row130, ?_⟩
 refine Ag.2 ⟨.inl row131, ?_⟩
 refine Ag.2 ⟨.inl row151, ?_⟩
 refine Ag.2 ⟨.inl row152, ?_⟩
 refine Ag.2 ⟨.inl row153, ?_⟩
 refine Ag.2 ⟨.inl row154, ?_⟩
 refine Ag.2 ⟨.inl row155, ?_⟩
 refine Ag.2 ⟨.inl row156, ?_⟩
 refine Ag.2 ⟨.inl row157, ?_⟩
 refine Ag.2 ⟨.inl row158, ?_⟩
 refine Ag.2 ⟨.inl row159, ?_⟩
 refine Ag.2 ⟨.inl row162, ?_⟩
 refine Ag.2 ⟨.inl row163, ?_⟩
 refine Ag.2 ⟨.inl row164, ?_⟩
 refine Ag.2 ⟨.inl row165, ?_⟩
 refine Ag.2 ⟨.inl row173, ?_⟩
 refine Ag.2 ⟨.inl row174, ?_⟩
 refine Ag.2 ⟨.inl row175, ?_⟩
 refine Ag.2 ⟨.inl row176, ?_⟩
 refine Ag.2 ⟨.inl row177, ?_⟩
 refine Ag.2 ⟨.inl row180, ?_⟩
 refine Ag.2 ⟨.inl row181, ?_⟩
 refine Ag.2 ⟨.inl row182, ?_⟩
 refine Ag.2 ⟨.inl row183, ?_⟩
 refine Ag.2 ⟨.inl row184, ?_⟩
 refine Ag.2 ⟨.inl row185, ?_⟩
 refine Ag.2 ⟨.inl row186, ?_⟩
 intro p hp
 cases hp
theorem has : Has (table aAb) := ⟨by kernel_rfl, by kernel_rfl, by kernel_rfl, by kernel_rfl, by kernel_rfl, by kernel_rfl, by kernel_rfl, by kernel_rfl, by kernel_rfl, by kernel_rfl, by kernel_rfl, by kernel_rfl, by kernel_rfl, by kernel_rfl, by kernel_rfl, by kernel_rfl, by kernel_rfl, by kernel_rfl, by kernel_rfl, by kernel_rfl, by kernel_rfl, by kernel_rfl, by kernel_rfl, by kernel_rfl, by kernel_rfl, by kernel_rfl, by kernel_rfl, by kernel_rfl, by kernel_rfl, by kernel_rfl, by kernel_rfl, by kernel_rfl, by kernel_rfl, by kernel_rfl, by kernel_rfl, by kernel_rfl, by kernel_rfl, by kernel_rfl, by kernel_rfl, by kernel_rfl, by kernel_rfl, by kernel_rfl, by kernel_rfl, by kernel_rfl, by kernel_rfl, by kernel_rfl, by kernel_rfl, by kernel_rfl, by kernel_rfl, by kernel_rfl, by kernel_rfl, by kernel_rfl⟩
theorem aKz (S : St) : iM (table aAb) (.fn 14 [] []) [] S fun r S' => r = .bool true ∧ Same S S' :=
 aW (aIm (l := lH tz) (by kernel_rfl) (fun c hc => by cases hc)) fun r S' h => ⟨h.1, by rw [h.2]; exact Same.refl S⟩
theorem runs {S : St} {a0 : AV} {l0 : List Int} {n1 : Int} {n2 : Int} {n3 : Bool} {n4 m4 : Int} {a5 : AV} {l5 : List Int} (h0 : bO .i64 S a0 l0) (hb0 : l0.length ≤ 140737488355328) (n1w : -9223372036854775808 ≤ n1 ∧ n1 ≤ 9223372036854775807) (n2w : -9223372036854775808 ≤ n2 ∧ n2 ≤ 9223372036854775807) (h5 : bO .i64 S a5 l5) (hb5 : l5.length ≤ 140737488355328) : iM (table aAb) (.fn 4 [] []) [a0, .int .i64 n1, .int .i64 n2, .bool n3, .agg [.int .i64 n4, .int .i64 m4], a5] S fun r S' => r = .bool true ∧ Same S S' :=
 aDg has aKz h0 hb0 h5 hb5
end Go.Proofs.Ytoojnpjgnnpllaa.symmetryFollows
