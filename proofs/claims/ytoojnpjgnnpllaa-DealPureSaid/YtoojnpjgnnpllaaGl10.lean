/- Contracts (10): rational numbers, the statements' tools, the law. -/
import Derived.Test.YtoojnpjgnnpllaaGl9
set_option maxHeartbeats 4000000
set_option linter.unusedSimpArgs false
set_option linter.unusedVariables false
namespace Go.Ev.Gl
variable {fns : T AFn}

/-! ## agree, Equal -/
end Go.Ev.Gl

namespace Go.Ev.Gl
variable {fns : T AFn}

/-! ## A region of plain operations with one guarded call and what is made of its result -/
/-! ## Some blocks alone are written -/
section
variable {W : Nat → Prop} {S X Y : St} {b : Nat}
end
/-- where the walk's variables lie -/
structure Lay where
  sb : Nat
  ob : Nat
  fb : Nat
  mb : Nat
  kb : Nat
  wb : Nat
  ib : Nat
  rb : Nat
  ab : Nat
  bs : Nat → Nat
  cs : List AV
section
variable {L : Lay} {S0 S1 X Y : St} {n : Nat} {mv : AV} {I F : List Int} {A : List (List Int)}
end
end Go.Ev.Gl

namespace Go.Ev.Gl
variable {fns : T AFn}

/-! ## The program's walk over pairs of nodes -/
end Go.Ev.Gl

namespace Go.Ev.Gl
variable {fns : T AFn}

/-! ## The program's image -/
end Go.Ev.Gl

namespace Go.Ev.Gl
variable {fns : T AFn}

/-! ## SymmetryMaps -/
end Go.Ev.Gl

namespace Go.Ev.Gl

/-! ## Games and lists as arguments -/
theorem isSl_ints {k : IntKind} {S : St} {v : AV} {l : List Int} (h : IsSlG 1 (IntE k) S v l) : IsSl k S v l := by
  rcases h with h | ⟨b, off, cap, o, cs, rfl, h2, h3, h4, h5⟩
  · exact .inl h
  · refine .inr ⟨b, off, cap, o, cs, rfl, h2, h3, h4, fun i x hi => ?_⟩
    obtain ⟨e, e1, e2, rfl, _⟩ := h5 i x hi
    have := e2 0 _ rfl
    rw [Nat.mul_one, Nat.add_zero] at this
    exact this
abbrev EInts (k : IntKind) : St → List AV → List Int → Prop := SlOf 1 (IntE k)
theorem ints_is {k : IntKind} {S : St} {avs : List AV} {l : List Int} (h : EInts k S avs l) : ∃ v, avs = [v] ∧ IsSl k S v l := by
  obtain ⟨v, h1, h2⟩ := SlOf.is h
  exact ⟨v, h1, isSl_ints h2⟩
section
variable {P : Program} {σ : Env} {S : St} {w : World}
theorem ints_isB {k : IntKind} {S : St} {avs : List AV} {l : List Int} (h : EInts k S avs l) : l.length ≤ 140737488355328 := by
  obtain ⟨_, _, h, _⟩ := h
  omega
theorem arg_listB {t : TypeId} {k : IntKind} {H : Type} {enc : TypeId × Value → H} {base : Nat} {spare : Nat → Bool} {held : Bool} {fuel : Nat} {v : Value} {x : DataW H × List MemPlace} (hR : Rep P σ S w) (hn : NoOwn S) (hf : Fresh S) (hG : P.globals.size ≤ S.nx) (hL : Lays P t (EInts k)) (h : DataW.trod enc P w base spare held fuel t v.cells.toList = some x) (hv : v.cells.toList = [v]) (hW : ∀ n ∈ DataW.weights P t x.1, n ≤ 140737488355328) :
    ∃ σ' S' a l, Added P σ S w σ' S' ∧ Rv P σ' a v ∧ IsSl k S' a l ∧ l.length ≤ 140737488355328 ∧ S.nx ≤ S'.nx := by
  obtain ⟨σ', S', avs, l, hA, hr, h1, hE, hnx⟩ := hL H enc σ S w base spare held fuel _ x hR hn hf hG h hW
  have hb := ints_isB hE
  obtain ⟨a, rfl, i1⟩ := ints_is hE
  rw [hv] at hr
  obtain ⟨_, _, h2, h3, h4⟩ := Rvs_cons.1 hr
  cases h2
  exact ⟨σ', S', a, l, hA, h3, i1, hb, hnx⟩
theorem lays_ints {t e : TypeId} {k : IntKind} (ht : P.underlying t = some (.slice e)) (he : P.underlying e = some (.int k)) (hc : P.cellsOf e = 1) (hby : 8 ≤ P.bytesOf e) : Lays P t (EInts k) := lays_slice ht hc (by decide) (by omega) (lays_int he) firm_int
end
end Go.Ev.Gl
