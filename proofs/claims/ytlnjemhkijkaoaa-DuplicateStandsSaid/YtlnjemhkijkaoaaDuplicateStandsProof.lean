/-
  'DuplicateStands' returns true whatever it is handed. The run is shown in the evaluator (texts Gl), whose soundness is proved in the texts Ev; the call of lives is known by its own run. No condition.
-/
import Derived.Test.YtlnjemhkijkaoaaRows
import Derived.Test.YtlnjemhkijkaoaaDuplicateStandsFns
import Derived.WalkKit
import Derived.ProofKit
import Derived.OpenShut
import Derived.ChangeStays
import Derived.ChangeArms
import Derived.ChangeSlices
import Derived.ReadAgain
import Derived.SizedLaws
namespace Go.Proofs.Ytlnjemhkijkaoaa.duplicateStands
open Go.ChangeShapes Go.WideShapes Go.ChangeAt Go.RowKit Go.Ev Go.Ev.Gl

theorem own : ownKnob Try.prog.godebug = none := by kernel_rfl
theorem laidOut : laidOutB Try.prog = true := by kernel_rfl
theorem rowed : mapsRowed Try.prog = true := by kernel_rfl
/-- what was read reads the same where all is kept -/
theorem shutAll {H : Type} {enc : TypeId × Value → H} {W W' : World} {sp : Nat → Bool} (hk : Kept W W') : ∀ {ts : List TypeId} {vs : List Value} {ds : List (DataW H)} {ps : List MemPlace}, (∀ t ∈ ts, t < Try.prog.types.size) → DataW.TrodAll enc Try.prog W 0 (fun _ => true) true ts vs ds ps → (∀ q ∈ ps, sp q.block = true) → DataW.TrodAll enc Try.prog W' 0 sp true ts vs ds ps
  | [], [], [], _, _, h, _ => h
  | t :: ts, v :: vs, d :: ds, _, ht, ⟨p, q, ⟨fuel, h1⟩, h2, rfl⟩, hs => by
    refine ⟨p, q, ⟨fuel, DataW.trod_stays (T := (· < Try.prog.types.size)) (kids_rows laidOut rowed) (fun h1 h2 => slices_full_of Try.prog (by kernel_rfl) _ _ h1 h2) (fun h => by cases h) (ht t (List.mem_cons_self ..)) h1 (fun x hx => ?_) (fun x hx => hs x (List.mem_append_left _ hx))⟩, shutAll hk (fun u hu => ht u (List.mem_cons_of_mem _ hu)) h2 (fun x hx => hs x (List.mem_append_right _ hx)), rfl⟩
    have hlt := DataW.trod_lt _ _ _ _ h1 x hx
    cases x with
    | cell b off =>
      show W'.cell? ⟨b, off, none⟩ = W.cell? ⟨b, off, none⟩
      unfold World.cell?
      rw [hk.heap b hlt]
    | map b => exact hk.heap b hlt
theorem layLists : Lays Try.prog 22 (SlOf 1 (EInts .i64)) := lays_lists Try.underlying22 Try.underlying24 Try.underlying3 (by kernel_rfl) (by kernel_rfl) (of_decide_eq_true (by kernel_rfl)) (of_decide_eq_true (by kernel_rfl))

set_option maxRecDepth 100000 in
theorem contract (H : Type) (enc : TypeId × Value → H) (W : World) (base : Nat) (args : Array Value) (ds gs : List (DataW H)) (before : List MemPlace)
    (hval : ∀ (j : Nat) t v, Try.f3.params[j]? = some t → args[j]? = some v → Value.okWide Try.prog W .any base t v)
    (hW : DataW.Whole enc Try.prog Try.f3.params.toList Rows.duplicateStandsSpec.vars false W args.toList ds gs before)
    (hwt : (DataW.weightsEach Try.prog (Try.f3.params.toList ++ Rows.duplicateStandsSpec.plain.varTypes Try.prog) (ds ++ gs)).all (· ≤ reachBytes) = true) :
    Calls Try.prog 3 args W fun e W' => ∃ v, e = .returned v ∧ Rows.duplicateStandsSpec.post enc Try.prog Try.f3 false true false false W args v W' := by
  have hW' := hW
  obtain ⟨p, q, hA0, hV, rfl, hfz, hnd⟩ := hW
  have hA : DataW.TrodAll enc Try.prog W 0 (fun _ => true) true Try.f3.params.toList args.toList ds p := hA0
  rw [Try.params3] at hA hval
  obtain ⟨v0, v1, d0, d1, p0, p1, rfl, rfl, hp, h0, h1⟩ := trodAll_two hA
  obtain ⟨rfl, rfl⟩ := trodVars_none hV
  simp only [List.append_nil] at hW'
  have hv0 : Rows.duplicateStandsSpec.plain.varTypes Try.prog = [] := rfl
  rw [hv0, List.append_nil, List.append_nil, Try.params3] at hwt
  have hw3 : ∀ (j : Nat) (t : TypeId) (d : DataW H), [22, 3][j]? = some t → [d0, d1][j]? = some d → ∀ n ∈ DataW.weights Try.prog t d, n ≤ 140737488355328 := fun j t d h1 h2 n hn => Nat.le_trans (of_decide_eq_true (List.all_eq_true.1 hwt n (weights_each h1 h2 hn))) (by decide)
  have hT : Tabs Try.prog ([] : List (Nat × List AV)) W := tabs_nil
  have hgl : ∀ x ∈ ([] : List (Nat × List AV)), x.1 < Try.prog.globals.size := fun x hx => by cases hx
  obtain ⟨f0, e0⟩ := id h0
  obtain ⟨b0, bl0, bc0, rfl⟩ := okWide_slice Try.underlying22 (hval 0 22 v0 rfl rfl)
  obtain ⟨σ0, S0, a0, l0, A0, R0, I0, n0⟩ := arg_lists (repL hT) noOwn_L (fresh_L hgl) (Nat.le_refl _) layLists e0 rfl (hw3 0 22 _ rfl rfl)
  obtain ⟨n1, ev1, ed1, _, hn1⟩ := open_int Try.underlying3 (hval 1 3 v1 rfl rfl) h1
  have n1w := bounds_i64 hn1
  have hrun := runs  I0 n1w
  have hargs : Rvs Try.prog σ0 [a0, .int .i64 n1] [.slice b0 bl0 bc0, v1] := Rvs_cons.2 ⟨_, _, rfl, R0, Rvs_cons.2 ⟨_, _, rfl, (by rw [ev1]; simp only [Rv]), Rvs_nil.2 rfl⟩⟩
  refine (calls_wpf knows Try.func3 (by kernel_rfl) (by kernel_rfl) hrun hargs A0.rep A0.no).mono fun e W' ⟨he, hg⟩ => ?_
  subst he
  refine ⟨_, rfl, post_kept (pa := p) (pv := []) hW' (fun _ _ _ => (trodAll_cons_mk (shut_bool Try.underlying4 _) trodAll_mk0)) (fun sp hsp => ?_) (fun _ _ => rfl) (by simp)
    hg (ok_one (by kernel_rfl) rfl (okWide_bool_mk Try.underlying4 _))⟩
  show DataW.TrodAll enc Try.prog W' 0 sp true Try.f3.params.toList _ [d0, d1] _
  rw [Try.params3]
  exact shutAll hg (of_decide_eq_true (by kernel_rfl)) hA (fun q hq => hsp q (by simpa using hq))

set_option maxRecDepth 100000 in
theorem lifted (os : Os) (started : os.Started) (H : Type) (enc : TypeId × Value → H) :
    ReturnsInHanded {} Try.checked os 3 .any (Rows.duplicateStandsSpec.pre6 enc Try.prog Try.f3 Rows.duplicateStandsRow.domain false) (Rows.duplicateStandsSpec.post enc Try.prog Try.f3 false true false false) := by
  refine returnsInHanded_of_change_sized (C := Try.checked) own started (by kernel_rfl) Try.func3
    (ChangeSpec.witness6 (enc := enc) (C := Try.checked) false ⟨#[], #[.slice none 0 0, .int .i64 0], []⟩ 8 (by kernel_rfl) (by kernel_rfl) (by kernel_rfl) (by kernel_rfl)) ?_
  intro W base args ds gs before hval hW hcnd hwt _
  exact contract H enc W base args ds gs before hval hW hwt

/-- THE STATEMENT -/
theorem proved : Rows.DuplicateStandsSaid :=
  OpenClaim.holds_of_wide 3 Try.f3 rfl rfl rfl rfl rfl rfl rfl ⟨rfl, rfl, rfl, rfl, rfl⟩ rfl rfl rfl rfl rfl (by kernel_rfl) Try.func3 (by kernel_rfl)
    (of_decide_eq_true (by kernel_rfl)) (by unfold Func.isWrapper; first | (rw [if_pos (by decide +kernel)]; kernel_rfl) | (rw [if_neg (by decide +kernel)]; exact ⟨rfl, rfl⟩))
    (fun os started H enc _ => lifted os started H enc)
end Go.Proofs.Ytlnjemhkijkaoaa.duplicateStands
#print axioms Go.Proofs.Ytlnjemhkijkaoaa.duplicateStands.proved
