import Derived.Test.YtoojnpjgnnpllaaRows
import Derived.Test.YtoojnpjgnnpllaaSymmetryActsFns
import Derived.WalkKit
import Derived.ProofKit
import Derived.OpenShut
import Derived.ChangeStays
import Derived.ChangeArms
import Derived.ChangeSlices
import Derived.ReadAgain
import Derived.SizedLaws
namespace Go.Proofs.Ytoojnpjgnnpllaa.symmetryActs
open Go.ChangeShapes Go.WideShapes Go.ChangeAt Go.RowKit Go.Ev Go.Ev.Gl
theorem own : ownKnob Try.prog.godebug = none := by kernel_rfl
theorem laidOut : laidOutB Try.prog = true := by kernel_rfl
theorem aMR : mapsRowed Try.prog = true := by kernel_rfl
theorem shutAll {H : Type} {enc : TypeId × Value → H} {W W' : World} {sp : Nat → Bool} (hk : Kept W W') : ∀ {ts : List TypeId} {vs : List Value} {ds : List (DataW H)} {ps : List MemPlace}, (∀ t ∈ ts, t < Try.prog.types.size) → DataW.TrodAll enc Try.prog W 0 (fun _ => true) true ts vs ds ps → (∀ q ∈ ps, sp q.block = true) → DataW.TrodAll enc Try.prog W' 0 sp true ts vs ds ps
 | [], [], [], _, _, h, _ => h
 | t :: ts, v :: vs, d :: ds, _, ht, ⟨p, q, ⟨fuel, h1⟩, h2, rfl⟩, hs => by
  refine ⟨p, q, ⟨fuel, DataW.trod_stays (T := (· < Try.prog.types.size)) (kids_rows laidOut aMR) (fun h1 h2 => slices_full_of Try.prog (by kernel_rfl) _ _ h1 h2) (fun h => by cases h) (ht t (List.mem_cons_self ..)) h1 (fun x hx => ?_) (fun x hx => hs x (List.mem_append_left _ hx))⟩, shutAll hk (fun u hu => ht u (List.mem_cons_of_mem _ hu)) h2 (fun x hx => hs x (List.mem_append_right _ hx)), rfl⟩
  have hlt := DataW.trod_lt _ _ _ _ h1 x hx
  cases x with
  | cell b off =>
   show W'.cell? ⟨b, off, none⟩ = W.cell? ⟨b, off, none⟩
   unfold World.cell?
   rw [hk.heap b hlt]
  | map b => exact hk.heap b hlt
theorem aKF : Lays Try.prog 22 (aEk .i64) := aIa Try.underlying22 Try.underlying3 (by kernel_rfl) (of_decide_eq_true (by kernel_rfl))
section
variable {H : Type} {enc : TypeId × Value → H} {P : Program} {W : World} {base : Nat} {sp : Nat → Bool} {held : Bool}
theorem aHT {r : Reach} {b0 : Nat} {t e : TypeId} {v : Value} {d : DataW H} {ps : List MemPlace} (ht : P.underlying t = some (.array 3 e)) (he : P.underlying e = some (.int .i64)) (hc : P.cellsOf e = 1) (hct : P.cellsOf t = 3) (hval : Value.okWide P W r b0 t v) (hd : DataW.Trod enc P W base sp held t v d ps) : ∃ a b c : Int, v = .agg #[.int .i64 a, .int .i64 b, .int .i64 c] := by
 obtain ⟨cs, rfl, hs⟩ : ∃ cs : Array Value, v = .agg cs ∧ cs.size = 3 := by
  simp only [Value.okWide, ht] at hval
  obtain ⟨cs, h1, h2, _⟩ := hval
  exact ⟨cs, h1, by rw [h2, hct]⟩
 obtain ⟨fuel, hf⟩ := hd
 obtain ⟨xs, m, _, _, _, hl, hi⟩ := DataW.trod_array ht hf
 obtain ⟨l⟩ := cs
 match l, hs with
 | [x, y, z], _ =>
  have h0 := hi 0 (by decide)
  have h1 := hi 1 (by decide)
  have h2 := hi 2 (by decide)
  rw [List.getElem?_eq_getElem (by omega)] at h0 h1 h2
  simp only [hc, Value.cells, Nat.mul_one] at h0 h1 h2
  obtain ⟨a, ha, _⟩ := DataW.trod_int he h0
  obtain ⟨b, hb, _⟩ := DataW.trod_int he h1
  obtain ⟨c, hc', _⟩ := DataW.trod_int he h2
  simp at ha hb hc'
  subst ha hb hc'
  exact ⟨a, b, c, rfl⟩
end
section
variable {H : Type} {enc : TypeId × Value → H} {P : Program} {w : World} {base : Nat} {spare : Nat → Bool} {held : Bool}
theorem aDG {t0 t1 t2 t3 t4 : TypeId} {args : Array Value} {ds : List (DataW H)} {ps : List MemPlace} (h : DataW.TrodAll enc P w base spare held [t0, t1, t2, t3, t4] args.toList ds ps) :
  ∃ v0 v1 v2 v3 v4 d0 d1 d2 d3 d4 p0 p1 p2 p3 p4, args = #[v0, v1, v2, v3, v4] ∧ ds = [d0, d1, d2, d3, d4] ∧ ps = p0 ++ p1 ++ p2 ++ p3 ++ p4 ∧ DataW.Trod enc P w base spare held t0 v0 d0 p0 ∧ DataW.Trod enc P w base spare held t1 v1 d1 p1 ∧ DataW.Trod enc P w base spare held t2 v2 d2 p2 ∧ DataW.Trod enc P w base spare held t3 v3 d3 p3 ∧ DataW.Trod enc P w base spare held t4 v4 d4 p4 := by
 obtain ⟨v0, vs0, d0, e0, p0, q0, hargs, rfl, rfl, hd0, r0⟩ := trodAll_cons h
 obtain ⟨v1, vs1, d1, e1, p1, q1, rfl, rfl, rfl, hd1, r1⟩ := trodAll_cons r0
 obtain ⟨v2, vs2, d2, e2, p2, q2, rfl, rfl, rfl, hd2, r2⟩ := trodAll_cons r1
 obtain ⟨v3, vs3, d3, e3, p3, q3, rfl, rfl, rfl, hd3, r3⟩ := trodAll_cons r2
 obtain ⟨v4, vs4, d4, e4, p4, q4, rfl, rfl, rfl, hd4, r4⟩ := trodAll_cons r3
 obtain ⟨rfl, rfl, rfl⟩ := trodAll_nil r4
 exact ⟨v0, v1, v2, v3, v4, d0, d1, d2, d3, d4, p0, p1, p2, p3, p4, by cases args; simp_all, rfl, by simp, hd0, hd1, hd2, hd3, hd4⟩
end
set_option maxRecDepth 100000 in
theorem aIu (H : Type) (enc : TypeId × Value → H) (W : World) (base : Nat) (args : Array Value) (ds gs : List (DataW H)) (before : List MemPlace)
  (hval : ∀ (j : Nat) t v, Try.f3.params[j]? = some t → args[j]? = some v → Value.okWide Try.prog W .any base t v)
  (hW : DataW.Whole enc Try.prog Try.f3.params.toList Rows.symmetryActsSpec.vars false W args.toList ds gs before)
  (hwt : (DataW.weightsEach Try.prog (Try.f3.params.toList ++ Rows.symmetryActsSpec.plain.varTypes Try.prog) (ds ++ gs)).all (· ≤ reachBytes) = true) :
  Calls Try.prog 3 args W fun e W' => ∃ v, e = .returned v ∧ Rows.symmetryActsSpec.post enc Try.prog Try.f3 false true false false W args v W' := by
 have hW' := hW
 obtain ⟨p, q, hA0, hV, rfl, hfz, hnd⟩ := hW
 have hA : DataW.TrodAll enc Try.prog W 0 (fun _ => true) true Try.f3.params.toList args.toList ds p := hA0
 rw [Try.params3] at hA hval
 obtain ⟨v0, v1, v2, v3, v4, d0, d1, d2, d3, d4, p0, p1, p2, p3, p4, rfl, rfl, hp, h0, h1, h2, h3, h4⟩ := aDG hA
 obtain ⟨rfl, rfl⟩ := trodVars_none hV
 simp only [List.append_nil] at hW'
 have hv0 : Rows.symmetryActsSpec.plain.varTypes Try.prog = [] := rfl
 rw [hv0, List.append_nil, List.append_nil, Try.params3] at hwt
 have hw3 : ∀ (j : Nat) (t : TypeId) (d : DataW H), [22, 3, 3, 4, 23][j]? = some t → [d0, d1, d2, d3, d4][j]? = some d → ∀ n ∈ DataW.weights Try.prog t d, n ≤ 140737488355328 := fun j t d h1 h2 n hn => Nat.le_trans (of_decide_eq_true (List.all_eq_true.1 hwt n (xM h1 h2 hn))) (by decide)
 have hT : aIW Try.prog ([] : List (Nat × List AV)) W := aJ1
 have hgl : ∀ x ∈ ([] : List (Nat × List AV)), x.1 < Try.prog.globals.size := fun x hx => by cases hx
 obtain ⟨f0, e0⟩ := id h0
 obtain ⟨b0, bl0, bc0, rfl⟩ := okWide_slice Try.underlying22 (hval 0 22 v0 rfl rfl)
 obtain ⟨σ0, S0, a0, l0, A0, R0, I0, B0, n0⟩ := aHD (aM6 hT) aKV (aKP hgl) (Nat.le_refl _) aKF e0 rfl (hw3 0 22 _ rfl rfl)
 obtain ⟨n1, ev1, ed1, _, hn1⟩ := open_int Try.underlying3 (hval 1 3 v1 rfl rfl) h1
 have n1w := bounds_i64 hn1
 obtain ⟨n2, ev2, ed2, _, hn2⟩ := open_int Try.underlying3 (hval 2 3 v2 rfl rfl) h2
 have n2w := bounds_i64 hn2
 obtain ⟨n3, ev3, ed3, _⟩ := open_bool Try.underlying4 (hval 3 4 v3 rfl rfl) h3
 obtain ⟨n4, m4, o4, ev4⟩ := aHT Try.underlying23 Try.underlying3 (by kernel_rfl) (by kernel_rfl) (hval 4 23 v4 rfl rfl) h4
 have hrun := runs (n3 := n3) (n4 := n4) (m4 := m4) (o4 := o4) I0 B0 n1w n2w
 have hargs : fW Try.prog σ0 [a0, .int .i64 n1, .int .i64 n2, .bool n3, .agg [.int .i64 n4, .int .i64 m4, .int .i64 o4]] [.slice b0 bl0 bc0, v1, v2, v3, v4] := cD.2 ⟨_, _, rfl, R0, cD.2 ⟨_, _, rfl, (by rw [ev1]; simp only [Rv]), cD.2 ⟨_, _, rfl, (by rw [ev2]; simp only [Rv]), cD.2 ⟨_, _, rfl, (by rw [ev3]; simp only [Rv]), cD.2 ⟨_, _, rfl, (by rw [ev4]; simp only [Rv]; exact ⟨_, rfl, cD.2 ⟨_, _, rfl, (by simp only [Rv]), cD.2 ⟨_, _, rfl, (by simp only [Rv]), cD.2 ⟨_, _, rfl, (by simp only [Rv]), cJ.2 rfl⟩⟩⟩, (fun v hv => by simp at hv; rcases hv with rfl | rfl | rfl <;> rfl)⟩), cJ.2 rfl⟩⟩⟩⟩⟩
 refine (aHq knows Try.func3 (by kernel_rfl) (by kernel_rfl) hrun hargs A0.rep A0.no).mono fun e W' ⟨he, hg⟩ => ?_
 subst he
 refine ⟨_, rfl, aHc (pa := p) (pv := []) hW' (fun _ _ _ => (trodAll_cons_mk (shut_bool Try.underlying4 _) trodAll_mk0)) (fun sp hsp => ?_) (fun _ _ => rfl) (by simp)
  hg (ok_one (by kernel_rfl) rfl (okWide_bool_mk Try.underlying4 _))⟩
 show DataW.TrodAll enc Try.prog W' 0 sp true Try.f3.params.toList _ [d0, d1, d2, d3, d4] _
 rw [Try.params3]
 exact shutAll hg (of_decide_eq_true (by kernel_rfl)) hA (fun q hq => hsp q (by simpa using hq))
set_option maxRecDepth 100000 in
theorem lifted (os : Os) (started : os.Started) (H : Type) (enc : TypeId × Value → H) :
  ReturnsInHanded {} Try.checked os 3 .any (Rows.symmetryActsSpec.pre6 enc Try.prog Try.f3 Rows.symmetryActsRow.domain false) (Rows.symmetryActsSpec.post enc Try.prog Try.f3 false true false false) := by
 refine returnsInHanded_of_change_sized (C := Try.checked) own started (by kernel_rfl) Try.func3
  (ChangeSpec.witness6 (enc := enc) (C := Try.checked) false ⟨#[], #[.slice none 0 0, .int .i64 0, .int .i64 0, .bool false, .agg #[.int .i64 0, .int .i64 0, .int .i64 0]], []⟩ 8 (by kernel_rfl) (by kernel_rfl) (by kernel_rfl) (by kernel_rfl)) ?_
 intro W base args ds gs before hval hW hcnd hwt _
 exact aIu H enc W base args ds gs before hval hW hwt
theorem proved : Rows.SymmetryActsSaid :=
 OpenClaim.holds_of_wide 3 Try.f3 rfl rfl rfl rfl rfl rfl rfl ⟨rfl, rfl, rfl, rfl, rfl⟩ rfl rfl rfl rfl rfl (by kernel_rfl) Try.func3 (by kernel_rfl)
  (of_decide_eq_true (by kernel_rfl)) (by unfold Func.isWrapper; first | (rw [if_pos (by decide +kernel)]; kernel_rfl) | (rw [if_neg (by decide +kernel)]; exact ⟨rfl, rfl⟩))
  (fun os started H enc _ => lifted os started H enc)
end Go.Proofs.Ytoojnpjgnnpllaa.symmetryActs
#print axioms Go.Proofs.Ytoojnpjgnnpllaa.symmetryActs.proved
