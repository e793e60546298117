import Derived.Test.YtoojnpjgnnpllaaGl4
set_option maxHeartbeats 4000000
set_option linter.unusedSimpArgs false
set_option linter.unusedVariables false
namespace Go.Ev.Gl
end Go.Ev.Gl
namespace Go.Ev.Gl
end Go.Ev.Gl
namespace Go.Ev.Gl
end Go.Ev.Gl
namespace Go.Ev.Gl
variable {fns : T cA}
end Go.Ev.Gl
namespace Go.Ev.Gl
variable {fns : T cA}
end Go.Ev.Gl
namespace Go.Ev.Gl
variable {fns : T cA}
end Go.Ev.Gl
namespace Go.Ev.Gl
variable {fns : T cA}
end Go.Ev.Gl
namespace Go.Ev.Gl
variable {fns : T cA}
theorem aLt {z0 z1 : AV} {x y : cH} {F : Fr} {h : T AB} (h1 : (x.val F).cells = some [x.val F]) (h2 : (y.val F).cells = some [y.val F]) : gP (.build [z0, z1] [(0, 1, x), (1, 1, y)]) F h = some (.agg [x.val F, y.val F]) := by
 show (aU (dY [z0, z1] (dO F [(0, 1, x), (1, 1, y)])) fun cs => some (AV.agg cs)) = _
 simp only [dO, dY, h1, h2, aF]
 rfl
end Go.Ev.Gl
namespace Go.Ev.Gl
variable {fns : T cA}
end Go.Ev.Gl
namespace Go.Ev.Gl
variable {fns : T cA}
end Go.Ev.Gl
namespace Go.Ev.Gl
variable {fns : T cA}
end Go.Ev.Gl
namespace Go.Ev.Gl
variable {fns : T cA}
end Go.Ev.Gl
namespace Go.Ev.Gl
variable {fns : T cA}
end Go.Ev.Gl
namespace Go.Ev.Gl
variable {fns : T cA}
end Go.Ev.Gl
namespace Go.Ev.Gl
variable {fns : T cA}
end Go.Ev.Gl
namespace Go.Ev.Gl
variable {fns : T cA}
end Go.Ev.Gl
namespace Go.Ev.Gl
variable {fns : T cA}
theorem aHk (e : rC) {a b : Int} (hb : b ≠ 0) : mW .rem e (.int .i64 a) (.int .i64 b) = some (.int .i64 (a.tmod b)) := by
 show dN .rem .i64 a .i64 b = _
 unfold dN
 rw [show fD .rem = false from rfl, aM, gF, aG]
 show aJA .i64 a b = _
 unfold aJA
 split
 ·rename_i m n
  have h0 : Nat.beq n 0 = false := by
   rw [Bool.eq_false_iff]; intro h; rw [Nat.beq_eq] at h; subst h; exact hb rfl
  rw [h0, aM]
  rfl
 ·have h0 : ieq b (.ofNat 0) = false := by
   rw [Bool.eq_false_iff]; intro h; rw [lD] at h; exact hb (by simpa using h)
  rw [h0, aM]
end Go.Ev.Gl
namespace Go.Ev.Gl
variable {fns : T cA}
theorem aS (x : cH) (F : Fr) (h : T AB) : gP (.nilchk x) F h = rU (x.val F) := rfl
theorem bF (x : cH) : dG (.nilchk x) = false := rfl
theorem aT (b o : Nat) : rU (.ptr b o) = some (.ptr b o) := rfl
section
variable {h : T AB} {b : Nat} {x y : AV} {o : Bool} {s : Nat}
end
end Go.Ev.Gl
namespace Go.Ev.Gl
variable {fns : T cA}
theorem aHJ {x y : AV} (h1 : cN x x = true) (h2 : cN y y = true) : cN (.agg [x, y]) (.agg [x, y]) = true := by
 simp only [cN, mV, h1, h2, aG]
end Go.Ev.Gl
namespace Go.Ev.Gl
variable {fns : T cA}
end Go.Ev.Gl
namespace Go.Ev.Gl
variable {fns : T cA}
def aP : AV → Option Nat
 | .sl b _ _ _ _ => some b
 | _ => none
def gQ (k : Nat) (S0 S : St) (v : AV) (n : Nat) (cs : List AV) : Prop :=
 (v = .nilsl ∧ n = 0 ∧ cs = []) ∨ ∃ b, v = .sl b 0 n n true ∧ S0.nx ≤ b ∧ b < S.nx ∧ S.h.get b = some (.cells cs true k) ∧ cs.length = n * k
theorem gQ.step {k n : Nat} {S0 S S' : St} {v : AV} {cs : List AV} (h : gQ k S0 S v n cs) (hs : Same S S') : gQ k S0 S' v n cs := by
 rcases h with h | ⟨b, h1, h2, h3, h4, h5⟩
 ·exact .inl h
 ·exact .inr ⟨b, h1, h2, Nat.lt_of_lt_of_le h3 hs.1, (hs.2 b h3).trans h4, h5⟩
theorem ia8 {b m N i : Nat} {o : Bool} (hi : i < m) : eO (.slice 1) (.sl b 0 m N o) i = some (.ptr b i) := by
 show bO (Nat.blt i m) (some (AV.ptr b (0 + i * 1))) none = _
 rw [show Nat.blt i m = true from Nat.ble_eq_true_of_le hi, aG]
 simp
end Go.Ev.Gl
