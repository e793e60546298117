import Derived.Test.YtoojnpjgnnpllaaGl4
set_option maxHeartbeats 16000000
set_option linter.unusedSimpArgs false
set_option linter.unusedVariables false
namespace Go.Ev.Gl
end Go.Ev.Gl
namespace Go.Ev.Gl
end Go.Ev.Gl
namespace Go.Ev.Gl
variable {fns : T eJ}
theorem aMg {z0 z1 : AV} {x y : cK} {F : Fr} {h : T AB} (h1 : (x.val F).cells = some [x.val F]) (h2 : (y.val F).cells = some [y.val F]) : gR (.build [z0, z1] [(0, 1, x), (1, 1, y)]) F h = some (.agg [x.val F, y.val F]) := by
 show (bE (eF [z0, z1] (dJ F [(0, 1, x), (1, 1, y)])) fun cs => some (AV.agg cs)) = _
 simp only [dJ, eF, h1, h2, aE]
 rfl
theorem aCJ (e : vC) {a b : Int} (hb : b ≠ 0) : lE .rem e (.int .i64 a) (.int .i64 b) = some (.int .i64 (a.tmod b)) := by
 show dS .rem .i64 a .i64 b = _
 unfold dS
 rw [show fG .rem = false from rfl, aL, gK, aF]
 show aH5 .i64 a b = _
 unfold aH5
 split
 ·rename_i m n
  have h0 : Nat.beq n 0 = false := by
   rw [Cb]; intro h; rw [Bd] at h; subst h; exact hb rfl
  rw [h0, aL]
  rfl
 ·have h0 : ieq b (.ofNat 0) = false := by
   rw [Cb]; intro h; rw [lU] at h; exact hb (by simpa using h)
  rw [h0, aL]
theorem aS (x : cK) (F : Fr) (h : T AB) : gR (.nilchk x) F h = rB (x.val F) := rfl
theorem bH (x : cK) : dH (.nilchk x) = false := rfl
theorem aR (b o : Nat) : rB (.ptr b o) = some (.ptr b o) := rfl
section
variable {h : T AB} {b : Nat} {x y : AV} {o : Bool} {s : Nat}
end
theorem aHH {x y : AV} (h1 : cO x x = true) (h2 : cO y y = true) : cO (.agg [x, y]) (.agg [x, y]) = true := by
 simp only [cO, mQ, h1, h2, aF]
def aQ : AV → Option Nat
 | .sl b _ _ _ _ => some b
 | _ => none
def gN (k : Nat) (S0 S : St) (v : AV) (n : Nat) (cs : List AV) : Prop :=
 (v = .nilsl ∧ n = 0 ∧ cs = []) ∨ ∃ b, v = .sl b 0 n n true ∧ S0.nx ≤ b ∧ b < S.nx ∧ S.h.get b = some (.cells cs true k) ∧ cs.length = n * k
theorem gN.step {k n : Nat} {S0 S S' : St} {v : AV} {cs : List AV} (h : gN k S0 S v n cs) (hs : Same S S') : gN k S0 S' v n cs := by
 rcases h with h | ⟨b, h1, h2, h3, h4, h5⟩
 ·exact .inl h
 ·exact .inr ⟨b, h1, h2, Ae h3 hs.1, (hs.2 b h3).trans h4, h5⟩
theorem ia8 {b m N i : Nat} {o : Bool} (hi : i < m) : eT (.slice 1) (.sl b 0 m N o) i = some (.ptr b i) := by
 show bQ (Nat.blt i m) (some (AV.ptr b (0 + i * 1))) none = _
 rw [show Nat.blt i m = true from Ak hi, aF]
 simp
end Go.Ev.Gl
