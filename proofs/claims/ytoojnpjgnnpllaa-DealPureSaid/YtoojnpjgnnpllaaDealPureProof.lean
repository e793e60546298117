/-
  'DealPure' returns true whatever it is handed. The run is shown in the evaluator (texts Gl), whose soundness is proved in the texts Ev; the call of lives is known by its own run. No condition.
-/
import Derived.Test.YtoojnpjgnnpllaaRows
import Derived.Test.YtoojnpjgnnpllaaDealPureFns
import Derived.WalkKit
import Derived.ProofKit
import Derived.OpenShut
import Derived.ChangeStays
import Derived.ChangeArms
import Derived.ChangeSlices
import Derived.ReadAgain
import Derived.SizedLaws
namespace Go.Proofs.Ytoojnpjgnnpllaa.dealPure
open Go.ChangeShapes Go.WideShapes Go.ChangeAt Go.RowKit Go.Ev Go.Ev.Gl

theorem own : ownKnob Try.prog.godebug = none := by kernel_rfl
theorem laidOut : laidOutB Try.prog = true := by kernel_rfl
theorem rowed : mapsRowed Try.prog = true := by kernel_rfl
/-- what was read reads the same where all is kept -/
theorem shutAll {H : Type} {enc : TypeId × Value → H} {W W' : World} {sp : Nat → Bool} (hk : Kept W W') : ∀ {ts : List TypeId} {vs : List Value} {ds : List (DataW H)} {ps : List MemPlace}, (∀ t ∈ ts, t < Try.prog.types.size) → DataW.TrodAll enc Try.prog W 0 (fun _ => true) true ts vs ds ps → (∀ q ∈ ps, sp q.block = true) → DataW.TrodAll enc Try.prog W' 0 sp true ts vs ds ps
  | [], [], [], _, _, h, _ => h
  | t :: ts, v :: vs, d :: ds, _, ht, ⟨p, q, ⟨fuel, h1⟩, h2, rfl⟩, hs => by
    refine ⟨p, q, ⟨fuel, DataW.trod_stays (T := (· < Try.prog.types.size)) (kids_rows laidOut rowed) (fun h1 h2 => slices_full_of Try.prog (by kernel_rfl) _ _ h1 h2) (fun h => by cases h) (ht t (List.mem_cons_self ..)) h1 (fun x hx => ?_) (fun x hx => hs x (List.mem_append_left _ hx))⟩, shutAll hk (fun u hu => ht u (List.mem_cons_of_mem _ hu)) h2 (fun x hx => hs x (List.mem_append_right _ hx)), rfl⟩
    have hlt := DataW.trod_lt _ _ _ _ h1 x hx
    cases x with
    | cell b off =>
      show W'.cell? ⟨b, off, none⟩ = W.cell? ⟨b, off, none⟩
      unfold World.cell?
      rw [hk.heap b hlt]
    | map b => exact hk.heap b hlt
theorem layInts : Lays Try.prog 22 (EInts .i64) := lays_ints Try.underlying22 Try.underlying3 (by kernel_rfl) (of_decide_eq_true (by kernel_rfl))

set_option maxRecDepth 100000 in
theorem contract (H : Type) (enc : TypeId × Value → H) (W : World) (base : Nat) (args : Array Value) (ds gs : List (DataW H)) (before : List MemPlace)
    (hval : ∀ (j : Nat) t v, Try.f8.params[j]? = some t → args[j]? = some v → Value.okWide Try.prog W .any base t v)
    (hW : DataW.Whole enc Try.prog Try.f8.params.toList Rows.dealPureSpec.vars false W args.toList ds gs before)
    (hwt : (DataW.weightsEach Try.prog (Try.f8.params.toList ++ Rows.dealPureSpec.plain.varTypes Try.prog) (ds ++ gs)).all (· ≤ reachBytes) = true) :
    Calls Try.prog 8 args W fun e W' => ∃ v, e = .returned v ∧ Rows.dealPureSpec.post enc Try.prog Try.f8 false true false false W args v W' := by
  have hW' := hW
  obtain ⟨p, q, hA0, hV, rfl, hfz, hnd⟩ := hW
  have hA : DataW.TrodAll enc Try.prog W 0 (fun _ => true) true Try.f8.params.toList args.toList ds p := hA0
  rw [Try.params8] at hA hval
  obtain ⟨v0, v1, v2, d0, d1, d2, p0, p1, p2, rfl, rfl, hp, h0, h1, h2⟩ := trodAll_three hA
  obtain ⟨rfl, rfl⟩ := trodVars_none hV
  simp only [List.append_nil] at hW'
  have hv0 : Rows.dealPureSpec.plain.varTypes Try.prog = [] := rfl
  rw [hv0, List.append_nil, List.append_nil, Try.params8] at hwt
  have hw3 : ∀ (j : Nat) (t : TypeId) (d : DataW H), [22, 22, 3][j]? = some t → [d0, d1, d2][j]? = some d → ∀ n ∈ DataW.weights Try.prog t d, n ≤ 140737488355328 := fun j t d h1 h2 n hn => Nat.le_trans (of_decide_eq_true (List.all_eq_true.1 hwt n (weights_each h1 h2 hn))) (by decide)
  have hT : Tabs Try.prog ([] : List (Nat × List AV)) W := tabs_nil
  have hgl : ∀ x ∈ ([] : List (Nat × List AV)), x.1 < Try.prog.globals.size := fun x hx => by cases hx
  obtain ⟨f0, e0⟩ := id h0
  obtain ⟨b0, bl0, bc0, rfl⟩ := okWide_slice Try.underlying22 (hval 0 22 v0 rfl rfl)
  obtain ⟨σ0, S0, a0, l0, A0, R0, I0, B0, n0⟩ := arg_listB (repL hT) noOwn_L (fresh_L hgl) (Nat.le_refl _) layInts e0 rfl (hw3 0 22 _ rfl rfl)
  obtain ⟨f1, e1⟩ := id h1
  obtain ⟨b1, bl1, bc1, rfl⟩ := okWide_slice Try.underlying22 (hval 1 22 v1 rfl rfl)
  obtain ⟨σ1, S1, a1, l1, A1, R1, I1, B1, n1⟩ := arg_listB A0.rep A0.no A0.fresh n0 layInts e1 rfl (hw3 1 22 _ rfl rfl)
  obtain ⟨n2, ev2, ed2, _, hn2⟩ := open_int Try.underlying3 (hval 2 3 v2 rfl rfl) h2
  have n2w := bounds_i64 hn2
  have hrun := runs  (IsSl.same I0 A1.same) B0 I1 B1 n2w
  have hargs : Rvs Try.prog σ1 [a0, a1, .int .i64 n2] [.slice b0 bl0 bc0, .slice b1 bl1 bc1, v2] := Rvs_cons.2 ⟨_, _, rfl, (R0.mono A1.le), Rvs_cons.2 ⟨_, _, rfl, R1, Rvs_cons.2 ⟨_, _, rfl, (by rw [ev2]; simp only [Rv]), Rvs_nil.2 rfl⟩⟩⟩
  refine (calls_wpf knows Try.func8 (by kernel_rfl) (by kernel_rfl) hrun hargs A1.rep A1.no).mono fun e W' ⟨he, hg⟩ => ?_
  subst he
  refine ⟨_, rfl, post_kept (pa := p) (pv := []) hW' (fun _ _ _ => (trodAll_cons_mk (shut_bool Try.underlying4 _) trodAll_mk0)) (fun sp hsp => ?_) (fun _ _ => rfl) (by simp)
    hg (ok_one (by kernel_rfl) rfl (okWide_bool_mk Try.underlying4 _))⟩
  show DataW.TrodAll enc Try.prog W' 0 sp true Try.f8.params.toList _ [d0, d1, d2] _
  rw [Try.params8]
  exact shutAll hg (of_decide_eq_true (by kernel_rfl)) hA (fun q hq => hsp q (by simpa using hq))

set_option maxRecDepth 100000 in
theorem lifted (os : Os) (started : os.Started) (H : Type) (enc : TypeId × Value → H) :
    ReturnsInHanded {} Try.checked os 8 .any (Rows.dealPureSpec.pre6 enc Try.prog Try.f8 Rows.dealPureRow.domain false) (Rows.dealPureSpec.post enc Try.prog Try.f8 false true false false) := by
  refine returnsInHanded_of_change_sized (C := Try.checked) own started (by kernel_rfl) Try.func8
    (ChangeSpec.witness6 (enc := enc) (C := Try.checked) false ⟨#[], #[.slice none 0 0, .slice none 0 0, .int .i64 0], []⟩ 8 (by kernel_rfl) (by kernel_rfl) (by kernel_rfl) (by kernel_rfl)) ?_
  intro W base args ds gs before hval hW hcnd hwt _
  exact contract H enc W base args ds gs before hval hW hwt

/-- THE STATEMENT -/
theorem proved : Rows.DealPureSaid :=
  OpenClaim.holds_of_wide 8 Try.f8 rfl rfl rfl rfl rfl rfl rfl ⟨rfl, rfl, rfl, rfl, rfl⟩ rfl rfl rfl rfl rfl (by kernel_rfl) Try.func8 (by kernel_rfl)
    (of_decide_eq_true (by kernel_rfl)) (by unfold Func.isWrapper; first | (rw [if_pos (by decide +kernel)]; kernel_rfl) | (rw [if_neg (by decide +kernel)]; exact ⟨rfl, rfl⟩))
    (fun os started H enc _ => lifted os started H enc)
end Go.Proofs.Ytoojnpjgnnpllaa.dealPure
#print axioms Go.Proofs.Ytoojnpjgnnpllaa.dealPure.proved
