/- Contracts (11): rational numbers, the statements' tools, the law. -/
import Derived.Test.YtffbfglbdghpaaaGreatDoorGl10
open Nat (reduceEqDiff reduceAdd)
set_option maxHeartbeats 4000000
set_option linter.unusedSimpArgs false
set_option linter.unusedVariables false
namespace Go.Ev.Gl

/-! ## Normal forms as arguments -/
/-- a number as it comes: sign, limbs of both parts -/
structure RawN where
  neg : Bool
  num : List Nat
  den : List Nat
def RawE (S : St) (cs : List AV) (x : RawN) : Prop := ∃ nv dv, cs = [.bool x.neg, nv, dv] ∧ LimbIs S nv x.num ∧ LimbIs S dv x.den
theorem firm_raw : Firm RawE := fun ⟨a, b, h, h1, h2⟩ hs => ⟨a, b, h, h1.same hs, h2.same hs⟩
def RowE (S : St) (cs : List AV) (L : List RawN) : Prop := ∃ a, cs = [a] ∧ IsSlG 3 RawE S a L
theorem firm_row : Firm RowE := fun ⟨a, h, h1⟩ hs => ⟨a, h, IsSlG.same (E := RawE) firm_raw h1 hs⟩
/-- a slice of elements of k cells each, of any length -/
def SlU (k : Nat) {α : Type} (E : St → List AV → α → Prop) (S : St) (avs : List AV) (l : List α) : Prop :=
  ∃ av, avs = [av] ∧ ((l = [] ∧ (av = .nilsl ∨ av = .emp)) ∨ ∃ (b cap : Nat) (css : List (List AV)), av = .sl b 0 l.length cap false ∧ l.length ≤ cap ∧ b < S.nx ∧ S.h.get b = some (.ro css.flatten) ∧ css.length = l.length ∧ ∀ (i : Nat) (cs : List AV) (a : α), css[i]? = some cs → l[i]? = some a → cs.length = k ∧ E S cs a)
theorem firm_slU {k : Nat} {α : Type} {E : St → List AV → α → Prop} (hE : Firm E) : Firm (SlU k E) := by
  rintro S S' avs l ⟨av, rfl, h | ⟨b, cap, css, h1, h2, h3, h4, h5, h6⟩⟩ hs
  · exact ⟨av, rfl, .inl h⟩
  · exact ⟨av, rfl, .inr ⟨b, cap, css, h1, h2, Nat.lt_of_lt_of_le h3 hs.1, (hs.2 b h3).trans h4, h5, fun i cs a hi ha => ⟨(h6 i cs a hi ha).1, hE (h6 i cs a hi ha).2 hs⟩⟩⟩
theorem SlU.is {k : Nat} {α : Type} {E : St → List AV → α → Prop} {S : St} {avs : List AV} {l : List α} (h : SlU k E S avs l) : ∃ v, avs = [v] ∧ IsSlG k E S v l := by
  obtain ⟨v, rfl, h | ⟨b, cap, css, h1, h2, h3, h4, h5, h6⟩⟩ := h
  · exact ⟨v, rfl, .inl h⟩
  · refine ⟨v, rfl, .inr ⟨b, 0, cap, false, css.flatten, h1, h2, h3, ?_, fun i a hi => ?_⟩⟩
    · unfold cellsAt; rw [h4]; rfl
    · have hil : i < css.length := by have := (List.getElem?_eq_some_iff.1 hi).1; omega
      obtain ⟨e1, e2⟩ := h6 i css[i] a (List.getElem?_eq_getElem hil) hi
      refine ⟨css[i], e1, fun j x hj => ?_, e2⟩
      rw [Nat.zero_add]
      exact flat_get (fun i' cs' hi' => (h6 i' cs' (l[i']'(by have := (List.getElem?_eq_some_iff.1 hi').1; omega)) hi' (List.getElem?_eq_getElem _)).1) (List.getElem?_eq_getElem hil) hj
theorem slU_elem {k : Nat} {α : Type} {E : St → List AV → α → Prop} {S : St} {avs : List AV} {l : List α} (h : SlU k E S avs l) {a : α} (ha : a ∈ l) : ∃ cs, E S cs a := by
  obtain ⟨_, _, ⟨rfl, _⟩ | ⟨b, cap, css, _, _, _, _, h5, h6⟩⟩ := h
  · cases ha
  · obtain ⟨i, hi⟩ := List.mem_iff_getElem?.1 ha
    have hlt := (List.getElem?_eq_some_iff.1 hi).1
    exact ⟨_, (h6 i css[i] a (List.getElem?_eq_getElem (by omega)) hi).2⟩
section
variable {P : Program} {σ : Env} {S : St} {w : World}
theorem lays_sliceU {t e : TypeId} {k : Nat} {α : Type} {E : St → List AV → α → Prop} (ht : P.underlying t = some (.slice e)) (hc : P.cellsOf e = k) (hk : 0 < k) (hE : Lays P e E) (hF : Firm E) : Lays P t (SlU k E) := by
  intro H enc σ S w base spare held fuel cs x hR hn hf hG h hW
  rcases DataW.trod_slice ht h with ⟨rfl, _⟩ | ⟨a, len, cap, elems, rest, n, rfl, rfl, hxe, _, hlc, _, hlen, hel, _⟩
  · exact ⟨σ, S, [.nilsl], [], Added.refl hR hn hf, Rvs_cons.2 ⟨_, _, rfl, by simp only [Rv], Rvs_nil.2 rfl⟩, fun u hu => by simp at hu; subst hu; rfl, ⟨_, rfl, .inl ⟨rfl, .inl rfl⟩⟩, Nat.le_refl _⟩
  · rw [hc] at hel
    subst hxe
    have hW : ∀ n ∈ DataW.weights P t (.slice (elems.map (·.1)) (rest.map (·.1))), n ≤ 140737488355328 := hW
    rw [weights_slice ht] at hW
    rcases Nat.eq_zero_or_pos len with h0 | hp
    · subst h0
      exact ⟨σ, S, [.emp], [], Added.refl hR hn hf, Rvs_cons.2 ⟨_, _, rfl, by simp only [Rv]; exact ⟨a, cap, rfl⟩, Rvs_nil.2 rfl⟩, fun u hu => by simp at hu; subst hu; rfl, ⟨_, rfl, .inl ⟨rfl, .inr rfl⟩⟩, Nat.le_refl _⟩
    · have hget : ∀ i, i < len → ∃ x, (w.cells? base (a.add (i * k)) k).bind (DataW.trod enc P w base spare held n e) = some x ∧ ∀ n ∈ DataW.weights P e x.1, n ≤ 140737488355328 := fun i hi => by
        rw [hel i hi]
        exact ⟨elems[i]'(by omega), List.getElem?_eq_getElem (by omega), fun n hn => hW n (List.mem_cons_of_mem _ (List.mem_append_left _ (weights_mem (List.mem_map_of_mem (List.getElem_mem _)) hn)))⟩
      obtain ⟨x0, hx0, _⟩ := hget 0 hp
      obtain ⟨cs0, hcs0, _⟩ := Option.bind_eq_some_iff.1 hx0
      obtain ⟨hl0, hc0⟩ := cellsQ hcs0
      have c0 := hc0 0 hk
      rw [List.getElem?_eq_getElem (by omega), Nat.zero_mul] at c0
      have e0 : (a.add 0).add 0 = a := rfl
      rw [e0] at c0
      have hblk : a.block < w.heap.size ∧ a.spot = none := by
        unfold World.cell? at c0
        cases hh : w.heap[a.block]? with
        | none => rw [hh] at c0; cases c0
        | some o =>
          refine ⟨(Array.getElem?_eq_some_iff.1 hh).1, ?_⟩
          rw [hh] at c0
          cases o with
          | cells c t fr =>
            simp only at c0
            by_cases hs : a.spot.isSome
            · rw [if_pos hs] at c0; cases c0
            · simpa using hs
          | _ => cases c0
      obtain ⟨σ1, S1, css, l, Cs, hA, hn1, hcl, hll, hE1, hrv, hone, hCl, hrange⟩ := lays_elems hE hF hk hblk.2 hR hn hf hG hget
      have hA2 := added_row hA.rep hA.no hA.fresh (Nat.le_trans hG hn1) hblk.1 hrv hone hrange
      refine ⟨_, _, [.sl S1.nx 0 len cap false], l, hA.trans hA2, Rvs_cons.2 ⟨_, _, rfl, ?_, Rvs_nil.2 rfl⟩, fun u hu => by simp at hu; subst hu; rfl, ⟨_, rfl, .inr ⟨S1.nx, cap, css, by rw [hll], by omega, by simp, ?_, by rw [hcl, hll], fun i cs a' hi ha => ⟨(hE1 i cs a' hi ha).1, hF (hE1 i cs a' hi ha).2 hA2.same⟩⟩⟩, by simp only; omega⟩
      · simp only [Rv]
        refine ⟨⟨a.block, a.off, 0⟩, by unfold envAdd; rw [if_pos rfl], ?_⟩
        have := hblk.2
        cases a
        simp_all
      · simp only
        rw [T.get_set, if_pos rfl]
end
abbrev EU32 : St → List AV → List Int → Prop := SlU 1 (IntE .u32)
abbrev EQ1 : St → List AV → (List Int × Unit) → Prop := ConsE EU32 NoE
abbrev EQ2 : St → List AV → (List Int × List Int × Unit) → Prop := ConsE EU32 EQ1
abbrev EQat : St → List AV → (Bool × List Int × List Int × Unit) → Prop := ConsE BoolE EQ2
abbrev EQs : St → List AV → List (Bool × List Int × List Int × Unit) → Prop := SlOf 3 EQat
abbrev EM1 : St → List AV → (List (List (Bool × List Int × List Int × Unit)) × Unit) → Prop := ConsE (SlOf 1 EQs) NoE
abbrev ENorm : St → List AV → (List Int × List (List (Bool × List Int × List Int × Unit)) × Unit) → Prop := ConsE (EInts .i64) EM1
theorem firm_u32 : Firm EU32 := firm_slU (E := IntE .u32) firm_int
theorem firm_q1 : Firm EQ1 := firm_cons (E := EU32) (R := NoE) firm_u32 firm_no
theorem firm_q2 : Firm EQ2 := firm_cons (E := EU32) (R := EQ1) firm_u32 firm_q1
theorem firm_qat : Firm EQat := firm_cons (E := BoolE) (R := EQ2) firm_bool firm_q2
theorem firm_qs : Firm EQs := Ev.firm_sl (E := EQat) firm_qat
theorem limb_is {S : St} {avs : List AV} {l : List Int} (h : EU32 S avs l) : ∃ v, avs = [v] ∧ LimbIs S v (l.map Int.toNat) := by
  have h0 : ∀ x ∈ l, 0 ≤ x := fun x hx => by
    obtain ⟨cs, rfl, hw⟩ := slU_elem h hx
    have h0 : IntKind.u32.min = 0 := rfl
    simp [Lit.wf] at hw
    omega
  obtain ⟨v, e, i⟩ := SlU.is h
  refine ⟨v, e, ?_⟩
  unfold LimbIs
  rw [List.map_map]
  have : (l.map (Int.ofNat ∘ Int.toNat)) = l := (List.map_congr_left fun x hx => Int.toNat_of_nonneg (h0 x hx)).trans (List.map_id _)
  rw [this]
  exact isSl_ints i
def rawT (a : Bool × List Int × List Int × Unit) : RawN := ⟨a.1, a.2.1.map Int.toNat, a.2.2.1.map Int.toNat⟩
theorem raw_is {S : St} {e : List AV} {a : Bool × List Int × List Int × Unit} (h : EQat S e a) : RawE S e (rawT a) := by
  obtain ⟨_, _, rfl, rfl, _, _, rfl, h1, _, _, rfl, h2, rfl⟩ := h
  obtain ⟨v1, rfl, i1⟩ := limb_is h1
  obtain ⟨v2, rfl, i2⟩ := limb_is h2
  exact ⟨v1, v2, rfl, i1, i2⟩
theorem row_is {S : St} {e : List AV} {a : List (Bool × List Int × List Int × Unit)} (h : EQs S e a) : RowE S e (a.map rawT) := by
  obtain ⟨v, rfl, i⟩ := SlOf.is h
  exact ⟨v, rfl, IsSlG.conv (fun e x h => raw_is h) i⟩
theorem norm_is {S : St} {avs : List AV} {a : List Int × List (List (Bool × List Int × List Int × Unit)) × Unit} (h : ENorm S avs a) : ∃ sv pv, ∃ l : List Int, ∃ L : List (List RawN), avs = [sv, pv] ∧ IsSl .i64 S sv l ∧ IsSlG 1 RowE S pv L := by
  obtain ⟨_, _, rfl, h1, _, _, rfl, h2, rfl⟩ := h
  obtain ⟨v1, rfl, i1⟩ := ints_is h1
  obtain ⟨v2, rfl, i2⟩ := SlOf.is h2
  exact ⟨v1, v2, a.1, a.2.1.map (fun r => r.map rawT), rfl, i1, IsSlG.conv (fun e x h => row_is h) i2⟩
section
variable {P : Program} {σ : Env} {S : St} {w : World}
/-- a normal form as an argument -/
theorem arg_norm {t : TypeId} {H : Type} {enc : TypeId × Value → H} {base : Nat} {spare : Nat → Bool} {held : Bool} {fuel : Nat} {v : Value} {x : DataW H × List MemPlace} (hR : Rep P σ S w) (hn : NoOwn S) (hf : Fresh S) (hG : P.globals.size ≤ S.nx) (hL : Lays P t ENorm) (h : DataW.trod enc P w base spare held fuel t v.cells.toList = some x) (hW : ∀ n ∈ DataW.weights P t x.1, n ≤ 140737488355328) :
    ∃ σ' S' sv pv, ∃ l : List Int, ∃ L : List (List RawN), Added P σ S w σ' S' ∧ Rv P σ' (.agg [sv, pv]) v ∧ IsSl .i64 S' sv l ∧ IsSlG 1 RowE S' pv L ∧ S.nx ≤ S'.nx := by
  obtain ⟨σ', S', avs, a, hA, hr, h1, hE, hnx⟩ := hL H enc σ S w base spare held fuel _ x hR hn hf hG h hW
  obtain ⟨sv, pv, l, L, rfl, i1, i2⟩ := norm_is hE
  refine ⟨σ', S', sv, pv, l, L, hA, ?_, i1, i2, hnx⟩
  have hl := hr.length
  rw [agg_of (v := v) (n := 2) (by decide) (by rw [hl]; rfl)]
  simp only [Rv]
  exact ⟨_, rfl, hr, h1⟩
/-- types of a normal form: tn Normal, ti []int, e int, tl [][]Rat, tr []Rat, tq Rat, b bool, tu []uint32, u uint32 -/
theorem lays_norm {tn ti e tl tr tq b tu u : TypeId} {fn fq : Array Field} (hn : P.underlying tn = some (.struct fn)) (hi : P.underlying ti = some (.slice e)) (he : P.underlying e = some (.int .i64)) (hl : P.underlying tl = some (.slice tr)) (hr : P.underlying tr = some (.slice tq)) (hq : P.underlying tq = some (.struct fq)) (hb : P.underlying b = some .bool) (hu : P.underlying tu = some (.slice u)) (hu2 : P.underlying u = some (.int .u32))
    (cn : P.cellsOf tn = 2) (ci : P.cellsOf ti = 1) (ce : P.cellsOf e = 1) (cl : P.cellsOf tl = 1) (cr : P.cellsOf tr = 1) (cq : P.cellsOf tq = 3) (cb : P.cellsOf b = 1) (cu : P.cellsOf tu = 1) (cu2 : P.cellsOf u = 1) (be : 8 ≤ P.bytesOf e) (br : 8 ≤ P.bytesOf tr) (bq : 24 ≤ P.bytesOf tq)
    (tsn : fn.toList.map (·.type) = [ti, tl]) (tsq : fq.toList.map (·.type) = [b, tu, tu])
    (on : ∀ (i : Nat) (f : Field), fn[i]? = some f → f.offset = i) (oq : ∀ (i : Nat) (f : Field), fq[i]? = some f → f.offset = i) : Lays P tn ENorm := by
  have Li := lays_ints hi he ce be
  have Lu : Lays P tu EU32 := lays_sliceU hu cu2 (by decide) (lays_int hu2) firm_int
  have Lq : Lays P tq EQat := by
    refine lays_struct hq tsq (fun i f h => ?_) (by simp [cq, cb, cu]) (laysF_cons (E := BoolE) (R := EQ2) (lays_bool hb) firm_bool (laysF_cons (E := EU32) (R := EQ1) Lu firm_u32 (laysF_cons (E := EU32) (R := NoE) Lu firm_u32 laysF_nil)))
    rw [oq i f h]
    have hlt : i < 3 := by
      have := (Array.getElem?_eq_some_iff.1 h).1
      have h6 := congrArg List.length tsq
      simp only [List.length_map, Array.length_toList, List.length_cons, List.length_nil] at h6
      omega
    match i, hlt with
    | 0, _ => simp
    | 1, _ => simp [cb]
    | 2, _ => simp [cb, cu]
  have Lr : Lays P tr EQs := lays_slice hr cq (by decide) (by omega) Lq firm_qat
  have Ll : Lays P tl (SlOf 1 EQs) := lays_slice hl cr (by decide) (by omega) Lr firm_qs
  refine lays_struct hn tsn (fun i f h => ?_) (by simp [cn, ci, cl]) (laysF_cons (E := EInts .i64) (R := EM1) Li firm_ints (laysF_cons (E := SlOf 1 EQs) (R := NoE) Ll (Ev.firm_sl (E := EQs) firm_qs) laysF_nil))
  rw [on i f h]
  have hlt : i < 2 := by
    have := (Array.getElem?_eq_some_iff.1 h).1
    have h6 := congrArg List.length tsn
    simp only [List.length_map, Array.length_toList, List.length_cons, List.length_nil] at h6
    omega
  match i, hlt with
  | 0, _ => simp
  | 1, _ => simp [ci]
end
end Go.Ev.Gl

namespace Go.Ev.Gl
variable {fns : T AFn}

/-! ## Sizes, plain -/
theorem wadd1 {a : Nat} (h : a + 1 ≤ 9223372036854775807) : IntKind.i64.wrap ((a : Int) + 1) = ((a + 1 : Nat) : Int) := by
  rw [wrap_i64 (by omega) (by omega)]
  omega
theorem dlt (a b : Nat) : decide ((a : Int) < (b : Int)) = decide (a < b) := by
  congr 1
  rw [Int.ofNat_lt]
/-- the first error of sizes behind a product so far -/
def szE : Int → List Int → Int
  | _, [] => 0
  | n, x :: l => if x < 1 then 2 else if 1000 < n * x then 5 else szE (n * x) l
def szP (n : Int) (l : List Int) : Int := l.foldl (fun a x => a * x) n
def szT (l : List Int) : Int := if l.length < 1 ∨ 4 < l.length then 2 else szE 1 l
/-- the product, 1001 for all that are greater than 1000 -/
def prF (so x : Int) : Int := if 1000 / so < x then 1001 else so * x
def prC (l : List Int) : Int := l.foldl prF 1
theorem prF_over {x : Int} (hx : 1 ≤ x) : prF 1001 x = 1001 := by
  unfold prF
  rw [if_pos (show (1000 : Int) / 1001 < x by omega)]
theorem prF_in {so x : Int} (h : 1 ≤ so) : prF so x = if 1000 < so * x then 1001 else so * x := by
  unfold prF
  have : 1000 / so < x ↔ 1000 < so * x := by rw [Int.ediv_lt_iff_lt_mul (by omega), Int.mul_comm]
  by_cases h1 : 1000 < so * x
  · rw [if_pos h1, if_pos (this.2 h1)]
  · rw [if_neg h1, if_neg fun e => h1 (this.1 e)]
theorem prC_snoc {l : List Int} {x : Int} : prC (l ++ [x]) = prF (prC l) x := by
  unfold prC
  rw [List.foldl_append]
  rfl
theorem szP_snoc {n : Int} {l : List Int} {x : Int} : szP n (l ++ [x]) = szP n l * x := by
  unfold szP
  rw [List.foldl_append]
  rfl
theorem szE_app {l m : List Int} : ∀ {n : Int}, szE n l = 0 → szE n (l ++ m) = szE (szP n l) m := by
  induction l with
  | nil => intro n _; rfl
  | cons x l ih =>
    intro n h
    simp only [szE] at h
    split at h
    · cases h
    split at h
    · cases h
    · rename_i a b
      show (if x < 1 then _ else if 1000 < n * x then _ else szE (n * x) (l ++ m)) = _
      rw [if_neg a, if_neg b]
      exact ih h
/-- sizes without an error: what they are -/
theorem szE_ok {l : List Int} : ∀ {n : Int}, 1 ≤ n → n ≤ 1000 → szE n l = 0 → (∀ x ∈ l, 1 ≤ x ∧ x ≤ 1000) ∧ 1 ≤ szP n l ∧ szP n l ≤ 1000 := by
  induction l with
  | nil => intro n h1 h2 _; exact ⟨fun x hx => (by cases hx), h1, h2⟩
  | cons x l ih =>
    intro n h1 h2 h
    simp only [szE] at h
    split at h
    · cases h
    split at h
    · cases h
    · rename_i a b
      have hx : 1 ≤ n * x := by
        have := Int.mul_le_mul h1 (show (1 : Int) ≤ x by omega) (by decide) (by omega)
        omega
      obtain ⟨q1, q2, q3⟩ := ih hx (by omega) h
      refine ⟨fun y hy => ?_, q2, q3⟩
      rcases List.mem_cons.1 hy with rfl | hy
      · refine ⟨by omega, ?_⟩
        have : 1 * y ≤ n * y := Int.mul_le_mul_of_nonneg_right h1 (by omega)
        omega
      · exact q1 y hy
theorem prC_ok {l : List Int} : ∀ {n : Int}, 1 ≤ n → n ≤ 1000 → szE n l = 0 → l.foldl prF n = szP n l := by
  induction l with
  | nil => intro n _ _ _; rfl
  | cons x l ih =>
    intro n h1 h2 h
    simp only [szE] at h
    split at h
    · cases h
    split at h
    · cases h
    · rename_i a b
      have hx : 1 ≤ n * x := by
        have := Int.mul_le_mul h1 (show (1 : Int) ≤ x by omega) (by decide) (by omega)
        omega
      show l.foldl prF (prF n x) = l.foldl _ (n * x)
      rw [prF_in h1, if_neg b]
      exact ih hx (by omega) h
theorem szE_pre {l : List Int} {i : Nat} : ∀ {n : Int}, szE n l = 0 → szE n (l.take i) = 0 := by
  induction l generalizing i with
  | nil => intro n h; rw [List.take_nil]; exact h
  | cons x l ih =>
    intro n h
    cases i with
    | zero => rfl
    | succ i =>
      simp only [szE] at h
      split at h
      · cases h
      split at h
      · cases h
      · rename_i a b
        show (if x < 1 then _ else if 1000 < n * x then _ else szE (n * x) (l.take i)) = 0
        rw [if_neg a, if_neg b]
        exact ih h
/-- the number of a profile -/
def idxN (s p : List Int) : Nat → Int
  | 0 => 0
  | i + 1 => idxN s p i * s.getD i 0 + p.getD i 0
theorem idxN_bd {s p : List Int} (hs : szE 1 s = 0) (hp : ∀ i, i < s.length → 0 ≤ p.getD i 0 ∧ p.getD i 0 < s.getD i 0) : ∀ {i : Nat}, i ≤ s.length → 0 ≤ idxN s p i ∧ idxN s p i < szP 1 (s.take i) ∧ szP 1 (s.take i) ≤ 1000
  | 0, _ => ⟨Int.le_refl _, by show (0 : Int) < 1; decide, by show (1 : Int) ≤ 1000; decide⟩
  | i + 1, h => by
    obtain ⟨h1, h2, h3⟩ := idxN_bd hs hp (i := i) (by omega)
    obtain ⟨p1, p2⟩ := hp i (by omega)
    have e : s.take (i + 1) = s.take i ++ [s.getD i 0] := by
      rw [List.take_succ_eq_append_getElem (by omega), List.getD_eq_getElem?_getD, List.getElem?_eq_getElem (by omega)]
      rfl
    have hz : szE 1 (s.take (i + 1)) = 0 := by
      have := @szE_pre s (i + 1) 1 hs
      exact this
    have hb := (szE_ok (by decide) (by decide) hz).2
    rw [e, szP_snoc] at hb ⊢
    have m1 : idxN s p i * s.getD i 0 ≤ (szP 1 (s.take i) - 1) * s.getD i 0 := Int.mul_le_mul_of_nonneg_right (by omega) (by omega)
    rw [Int.sub_mul, Int.one_mul] at m1
    have m2 : 0 ≤ idxN s p i * s.getD i 0 := Int.mul_nonneg h1 (by omega)
    show 0 ≤ idxN s p i * s.getD i 0 + p.getD i 0 ∧ idxN s p i * s.getD i 0 + p.getD i 0 < _ ∧ _
    omega
end Go.Ev.Gl

namespace Go.Ev.Gl
variable {fns : T AFn}

/-! ## The program's sizes -/
theorem prod1_spec {S : St} {a b : Int} (H : Has fns) (ha : 1 ≤ a ∧ a ≤ 1001) (hb : 1 ≤ b) : wpf fns (.fn 40 [] []) [.int .i64 a, .int .i64 b] S fun r S' => r = .int .i64 (prF a b) ∧ Same S S' := by
  have e : binV .quo (.p .int) (.int .i64 1000) (.int .i64 a) = some (.int .i64 (1000 / a)) := by
    have := bin_quo_i (.p .int) (a := 1000) (b := a) (by decide) (by omega) (by omega)
    exact this
  refine wpf_fn H.f40 (by simp) ?_
  simp only [↓stU, stD, reduceEqDiff, ↓reduceIte, reduceAdd]
  refine wsr ?_
  simp only [↓stU, stD, reduceEqDiff, ↓reduceIte, reduceAdd]
  refine wss ?_
  simp only [↓stU, stD, reduceEqDiff, ↓reduceIte, reduceAdd, e]
  by_cases h : 1000 / a < b
  · refine wpc_yes (by simp only [↓stU, stD, reduceEqDiff, ↓reduceIte, decide_eq_true h]) (wpc_seq (wpc_reg ?_))
    simp only [↓stU, stD, reduceEqDiff, ↓reduceIte, reduceAdd]
    refine wpc_ret ?_
    simp only [↓stU, stD, reduceEqDiff, ↓reduceIte, reduceAdd]
    exact ⟨by unfold prF; rw [if_pos h], Same.refl _⟩
  · refine wpc_non (by simp only [↓stU, stD, reduceEqDiff, ↓reduceIte, decide_eq_false h]) (wpc_skip ?_)
    have hd : (1000 : Int) / a ≤ 1000 := Int.ediv_le_self a (by decide)
    have m1 := Int.mul_nonneg (show 0 ≤ a by omega) (show 0 ≤ b by omega)
    have m2 := Int.mul_le_mul ha.2 (show b ≤ 1000 by omega) (by omega) (by decide)
    have w : IntKind.i64.wrap (a * b) = a * b := wrap_i64 (by omega) (by omega)
    try simp only [↓stU, stD, reduceEqDiff, ↓reduceIte, reduceAdd]
    refine wsr ?_
    simp only [↓stU, stD, reduceEqDiff, ↓reduceIte, reduceAdd, w]
    refine wpc_ret ?_
    simp only [↓stU, stD, reduceEqDiff, ↓reduceIte, reduceAdd]
    exact ⟨by unfold prF; rw [if_neg h], Same.refl _⟩
theorem prF_bd {a b : Int} (ha : 1 ≤ a ∧ a ≤ 1001) (hb : 1 ≤ b) : 1 ≤ prF a b ∧ prF a b ≤ 1001 := by
  by_cases h : a = 1001
  · rw [h, prF_over hb]; decide
  · rw [prF_in (by omega)]
    have : 1 * 1 ≤ a * b := Int.mul_le_mul ha.1 hb (by decide) (by omega)
    split <;> omega
def FoI (S : St) (v : AV) (l : List Int) (k : Nat) (A : Act') (X : St) : Prop := A.inr = false ∧ Same S X ∧ tmpV 2 A.F = .fn 40 [] [] ∧ tmpV 9 A.F = v ∧ tmpV 10 A.F = .int .i64 ((l.length : Nat) : Int) ∧ ∃ i, i + k = l.length ∧ tmpV 11 A.F = .int .i64 ((i : Nat) : Int) ∧ tmpV 1 A.F = .int .i64 (prC (l.take i)) ∧ 1 ≤ prC (l.take i) ∧ prC (l.take i) ≤ 1001
set_option maxHeartbeats 4000000 in
theorem fold_spec {S : St} {v : AV} {l : List Int} (H : Has fns) (h : IsSl .i64 S v l) (hl : ∀ x ∈ l, 1 ≤ x) (hb : l.length ≤ 1000000) : wpf fns (.fn 39 [] []) [v, .int .i64 1, .fn 40 [] []] S fun r S' => r = .int .i64 (prC l) ∧ Same S S' := by
  refine wpf_fn H.f39 (by simp) ?_
  simp only [↓stU, stD, reduceEqDiff, ↓reduceIte, reduceAdd]
  refine wsr ?_
  simp only [↓stU, stD, reduceEqDiff, ↓reduceIte, reduceAdd]
  refine wpc_seq (wpc_mono (Q := fun o A' X => o = .normal ∧ FoI S v l 0 A' X) (wpc_seq (wpc_reg ?_)) ?_)
  · simp only [↓stU, stD, reduceEqDiff, ↓reduceIte, reduceAdd, h.len, Int.ofNat_eq_natCast]
    refine wpc_block (wpc_loop (FoI S v l) ?_ l.length _ _ ⟨rfl, Same.refl _, by simp only [↓stU, stD, reduceEqDiff, ↓reduceIte, reduceAdd], by simp only [↓stU, stD, reduceEqDiff, ↓reduceIte, reduceAdd], by simp only [↓stU, stD, reduceEqDiff, ↓reduceIte, reduceAdd], 0, by omega, by simp only [↓stU, stD, reduceEqDiff, ↓reduceIte, reduceAdd]; try rfl, by simp only [↓stU, stD, reduceEqDiff, ↓reduceIte, reduceAdd]; try rfl, by show (1 : Int) ≤ 1; decide, by show (1 : Int) ≤ 1001; decide⟩)
    rintro k ⟨F1, inr⟩ X ⟨q0, hX, p2, p9, p10, i, hik, p11, p1, b1, b2⟩
    simp only at q0 p2 p9 p10 p11 p1
    subst q0
    refine wsr ?_
    simp only [↓stU, stD, reduceEqDiff, ↓reduceIte, reduceAdd, p10, p11, dlt]
    by_cases hlt : i < l.length
    rotate_left
    · refine wpc_seq (wpc_non (by simp only [↓stU, stD, reduceEqDiff, ↓reduceIte, decide_eq_false hlt]) (wpc_exit ?_))
      obtain rfl : k = 0 := by omega
      exact ⟨rfl, rfl, hX, by simp only [↓stU, stD, reduceEqDiff, ↓reduceIte, p2], by simp only [↓stU, stD, reduceEqDiff, ↓reduceIte, p9], by simp only [↓stU, stD, reduceEqDiff, ↓reduceIte, p10], i, hik, by simp only [↓stU, stD, reduceEqDiff, ↓reduceIte, p11], by simp only [↓stU, stD, reduceEqDiff, ↓reduceIte, p1], b1, b2⟩
    refine wpc_seq (wpc_yes (by simp only [↓stU, stD, reduceEqDiff, ↓reduceIte, decide_eq_true hlt]) (wpc_skip ?_))
    try simp only [↓stU, stD, reduceEqDiff, ↓reduceIte]
    have hX1 := h.same hX
    have ia := hX1.iaddr hlt
    have la := hX1.ld hlt
    have hx := hl (l.getD i 0) (by rw [List.getD_eq_getElem?_getD, List.getElem?_eq_getElem hlt]; exact List.getElem_mem hlt)
    refine wpc_seq (wpc_block (wpc_seq (wpc_reg ?_)))
    simp only [↓stU, stD, reduceEqDiff, ↓reduceIte, reduceAdd, p9, p11, natOf_cast, ia, la]
    refine wpc_reg ?_
    simp only [↓stU, stD, reduceEqDiff, ↓reduceIte, reduceAdd, p1, p2]
    refine wpo_call ?_
    simp only [↓stU, stD, reduceEqDiff, ↓reduceIte, reduceAdd, p2]
    refine wpf_mono (prod1_spec H ⟨b1, b2⟩ hx) ?_
    rintro _ Y ⟨rfl, y⟩
    try simp only [↓stU, stD, reduceEqDiff, ↓reduceIte, reduceAdd]
    refine wpc_reg ?_
    simp only [↓stU, stD, reduceEqDiff, ↓reduceIte, reduceAdd, p11, wadd1 (a := i) (by omega)]
    have e : prC (l.take (i + 1)) = prF (prC (l.take i)) (l.getD i 0) := by
      rw [List.take_succ_eq_append_getElem hlt, prC_snoc, List.getD_eq_getElem?_getD, List.getElem?_eq_getElem hlt]
      rfl
    obtain ⟨c1, c2⟩ := prF_bd ⟨b1, b2⟩ hx
    exact ⟨k - 1, by omega, rfl, hX.trans y, by simp only [↓stU, stD, reduceEqDiff, ↓reduceIte, p2], by simp only [↓stU, stD, reduceEqDiff, ↓reduceIte, p9], by simp only [↓stU, stD, reduceEqDiff, ↓reduceIte, p10], i + 1, by omega, by simp only [↓stU, stD, reduceEqDiff, ↓reduceIte, reduceAdd], by rw [e]; simp only [↓stU, stD, reduceEqDiff, ↓reduceIte, reduceAdd], by rw [e]; exact c1, by rw [e]; exact c2⟩
  rintro o ⟨F1, inr⟩ X ⟨rfl, q0, hX, _, _, _, i, hik, _, p1, _⟩
  simp only at q0 p1
  subst q0
  obtain rfl : i = l.length := by omega
  rw [List.take_length] at p1
  try simp only [↓stU, stD, reduceEqDiff, ↓reduceIte, reduceAdd]
  refine wsr ?_
  simp only [↓stU, stD, reduceEqDiff, ↓reduceIte, reduceAdd, p1]
  refine wpc_ret ?_
  simp only [↓stU, stD, reduceEqDiff, ↓reduceIte, reduceAdd]
  exact hX
theorem product_spec {S : St} {v : AV} {l : List Int} (H : Has fns) (h : IsSl .i64 S v l) (hl : ∀ x ∈ l, 1 ≤ x) (hb : l.length ≤ 1000000) : wpf fns (.fn 22 [] []) [v] S fun r S' => r = .int .i64 (prC l) ∧ Same S S' := by
  refine wpf_fn H.f22 (by simp) ?_
  simp only [↓stU, stD, reduceEqDiff, ↓reduceIte, reduceAdd]
  refine wsr ?_
  simp only [↓stU, stD, reduceEqDiff, ↓reduceIte, reduceAdd]
  refine wsr ?_
  simp only [↓stU, stD, reduceEqDiff, ↓reduceIte, reduceAdd]
  refine wpo_call ?_
  simp only [↓stU, stD, reduceEqDiff, ↓reduceIte, reduceAdd]
  refine wpf_mono (fold_spec H h hl hb) ?_
  rintro _ X ⟨rfl, hX⟩
  try simp only [↓stU, stD, reduceEqDiff, ↓reduceIte, reduceAdd]
  refine wpc_ret ?_
  simp only [↓stU, stD, reduceEqDiff, ↓reduceIte, reduceAdd]
  exact hX
/-! ### the check -/
theorem slc_le {k : IntKind} {S : St} {v : AV} {l : List Int} (h : IsSl k S v l) (h0 : 0 < l.length) {i : Nat} (hi : i ≤ l.length) {F : Fr} {x : Opd} (hx : natOf (x.val F) = some i) : slcV (.slice 1) v none (some x) none F = some (slHead v i) := by
  rcases h with ⟨h1, _⟩ | ⟨b, off, cap, o, cs, rfl, hc, hb, hcs, hel⟩
  · subst h1; simp at h0
  · have e1 : Nat.ble cap cap = true := Nat.ble_eq_true_of_le (Nat.le_refl _)
    have e2 : Nat.ble i cap = true := Nat.ble_eq_true_of_le (by omega)
    have e3 : Nat.ble 0 i = true := Nat.ble_eq_true_of_le (Nat.zero_le _)
    have e4 : Nat.beq cap 0 = false := by rw [Bool.eq_false_iff]; intro h; rw [Nat.beq_eq] at h; omega
    simp only [slcV, slSl, bounds, optNat, osel_some, hx, e1, e2, e3, bsel_true, e4, bsel_false, Nat.sub_zero, Nat.zero_mul, Nat.add_zero, Option.isNone_none]
    cases o <;> rfl
theorem head_le {k : IntKind} {S : St} {v : AV} {l : List Int} (h : IsSl k S v l) (h0 : 0 < l.length) {i : Nat} (hi : i ≤ l.length) : IsSl k S (slHead v i) (l.take i) := by
  rcases h with ⟨h1, _⟩ | ⟨b, off, cap, o, cs, rfl, hc, hb, hcs, hel⟩
  · subst h1; simp at h0
  · have hl : (l.take i).length = i := by rw [List.length_take]; omega
    refine .inr ⟨b, off, cap, o, cs, by rw [hl]; rfl, by rw [hl]; omega, hb, hcs, fun j x hj => ?_⟩
    have hlt : j < i := by have := (List.getElem?_eq_some_iff.1 hj).1; omega
    rw [List.getElem?_take_of_lt hlt] at hj
    exact hel j x hj
def CsI (S : St) (v : AV) (l : List Int) (k : Nat) (A : Act') (X : St) : Prop := A.inr = false ∧ Same S X ∧ tmpV 0 A.F = v ∧ tmpV 13 A.F = v ∧ tmpV 14 A.F = .int .i64 ((l.length : Nat) : Int) ∧ ∃ i, i + k = l.length ∧ tmpV 15 A.F = .int .i64 ((i : Nat) : Int) ∧ szE 1 (l.take i) = 0
theorem szE_next {l : List Int} {i : Nat} (hi : i < l.length) (h : szE 1 (l.take i) = 0) : szE 1 l = if l.getD i 0 < 1 then 2 else if 1000 < szP 1 (l.take i) * l.getD i 0 then 5 else szE (szP 1 (l.take i) * l.getD i 0) (l.drop (i + 1)) := by
  conv => lhs; rw [← List.take_append_drop i l, szE_app h, List.drop_eq_getElem_cons hi]
  rw [List.getD_eq_getElem?_getD, List.getElem?_eq_getElem hi]
  rfl
theorem szE_step {l : List Int} {i : Nat} (hi : i < l.length) (h : szE 1 (l.take i) = 0) (h1 : ¬ l.getD i 0 < 1) (h2 : ¬ 1000 < szP 1 (l.take i) * l.getD i 0) : szE 1 (l.take (i + 1)) = 0 ∧ szP 1 (l.take (i + 1)) = szP 1 (l.take i) * l.getD i 0 := by
  have e : l.take (i + 1) = l.take i ++ [l.getD i 0] := by
    rw [List.take_succ_eq_append_getElem hi, List.getD_eq_getElem?_getD, List.getElem?_eq_getElem hi]
    rfl
  rw [e, szE_app h, szP_snoc]
  exact ⟨by show (if _ < (1 : Int) then _ else if 1000 < _ then _ else (0 : Int)) = 0; rw [if_neg h1, if_neg h2], rfl⟩
set_option maxHeartbeats 4000000 in
theorem checkSizes_spec {S : St} {v : AV} {l : List Int} (H : Has fns) (h : IsSl .i64 S v l) : wpf fns (.fn 18 [] []) [v] S fun r S' => r = .int .i64 (szT l) ∧ Same S S' := by
  refine wpf_fn H.f18 (by simp) ?_
  simp only [↓stU, stD, reduceEqDiff, ↓reduceIte, reduceAdd]
  refine wsr ?_
  simp only [↓stU, stD, reduceEqDiff, ↓reduceIte, reduceAdd]
  refine wss ?_
  by_cases c1 : ((l.length : Nat) : Int) < 1
  · simp only [↓stU, stD, reduceEqDiff, ↓reduceIte, reduceAdd, h.len, Int.ofNat_eq_natCast, decide_eq_true c1]
    refine wpc_yes (by simp only [↓stU, stD, reduceEqDiff, ↓reduceIte]; try rfl) (wpc_seq (wpc_reg ?_))
    simp only [↓stU, stD, reduceEqDiff, ↓reduceIte, reduceAdd]
    refine wpc_ret ?_
    simp only [↓stU, stD, reduceEqDiff, ↓reduceIte, reduceAdd]
    exact ⟨by unfold szT; rw [if_pos (.inl (by omega))], Same.refl _⟩
  by_cases c2 : (4 : Int) < ((l.length : Nat) : Int)
  · simp only [↓stU, stD, reduceEqDiff, ↓reduceIte, reduceAdd, h.len, Int.ofNat_eq_natCast, decide_eq_false c1, decide_eq_true c2]
    refine wpc_yes (by simp only [↓stU, stD, reduceEqDiff, ↓reduceIte]; try rfl) (wpc_seq (wpc_reg ?_))
    simp only [↓stU, stD, reduceEqDiff, ↓reduceIte, reduceAdd]
    refine wpc_ret ?_
    simp only [↓stU, stD, reduceEqDiff, ↓reduceIte, reduceAdd]
    exact ⟨by unfold szT; rw [if_pos (.inr (by omega))], Same.refl _⟩
  have eT : szT l = szE 1 l := by unfold szT; rw [if_neg (by omega)]
  rw [eT]
  simp only [↓stU, stD, reduceEqDiff, ↓reduceIte, reduceAdd, h.len, Int.ofNat_eq_natCast, decide_eq_false c1, decide_eq_false c2]
  refine wpc_non (by simp only [↓stU, stD, reduceEqDiff, ↓reduceIte]; try rfl) (wpc_skip ?_)
  try simp only [↓stU, stD, reduceEqDiff, ↓reduceIte, reduceAdd]
  refine wpc_seq (wpc_mono (Q := fun o A' X => (o = .normal ∧ CsI S v l 0 A' X) ∨ (o = .ret ∧ tmpV 2 A'.F = .int .i64 (szE 1 l) ∧ Same S X)) (wpc_seq (wpc_reg ?_)) ?_)
  · simp only [↓stU, stD, reduceEqDiff, ↓reduceIte, reduceAdd, h.len, Int.ofNat_eq_natCast]
    refine wpc_block (wpc_loop (CsI S v l) ?_ l.length _ _ ⟨rfl, Same.refl _, by simp only [↓stU, stD, reduceEqDiff, ↓reduceIte, reduceAdd], by simp only [↓stU, stD, reduceEqDiff, ↓reduceIte, reduceAdd], by simp only [↓stU, stD, reduceEqDiff, ↓reduceIte, reduceAdd], 0, by omega, by simp only [↓stU, stD, reduceEqDiff, ↓reduceIte, reduceAdd]; try rfl, rfl⟩)
    rintro k ⟨F1, inr⟩ X ⟨q0, hX, p0, p13, p14, i, hik, p15, hz⟩
    simp only at q0 p0 p13 p14 p15
    subst q0
    refine wsr ?_
    simp only [↓stU, stD, reduceEqDiff, ↓reduceIte, reduceAdd, p14, p15, dlt]
    by_cases hlt : i < l.length
    rotate_left
    · refine wpc_seq (wpc_non (by simp only [↓stU, stD, reduceEqDiff, ↓reduceIte, decide_eq_false hlt]) (wpc_exit ?_))
      obtain rfl : k = 0 := by omega
      exact .inl ⟨rfl, rfl, hX, by simp only [↓stU, stD, reduceEqDiff, ↓reduceIte, p0], by simp only [↓stU, stD, reduceEqDiff, ↓reduceIte, p13], by simp only [↓stU, stD, reduceEqDiff, ↓reduceIte, p14], i, hik, by simp only [↓stU, stD, reduceEqDiff, ↓reduceIte, p15], hz⟩
    refine wpc_seq (wpc_yes (by simp only [↓stU, stD, reduceEqDiff, ↓reduceIte, decide_eq_true hlt]) (wpc_skip ?_))
    try simp only [↓stU, stD, reduceEqDiff, ↓reduceIte]
    have hX1 := h.same hX
    have ia := hX1.iaddr hlt
    have la := hX1.ld hlt
    have hn := szE_next hlt hz
    have hst := szE_step hlt hz
    obtain ⟨hall, z1, z2⟩ := szE_ok (by decide) (by decide) hz
    have hget : l.take (i + 1) = l.take i ++ [l.getD i 0] := by
      rw [List.take_succ_eq_append_getElem hlt, List.getD_eq_getElem?_getD, List.getElem?_eq_getElem hlt]
      rfl
    have hpc := prC_ok (l := l.take i) (n := 1) (by decide) (by decide) hz
    refine wpc_seq (wpc_block (wpc_seq (wpc_reg ?_)))
    simp only [↓stU, stD, reduceEqDiff, ↓reduceIte, reduceAdd, p13, p15, natOf_cast, ia, la]
    refine wss ?_
    simp only [↓stU, stD, reduceEqDiff, ↓reduceIte, reduceAdd]
    generalize l.getD i 0 = x at *
    by_cases hx : x < 1
    · rw [if_pos hx] at hn
      refine wpc_yes (by simp only [↓stU, stD, reduceEqDiff, ↓reduceIte, decide_eq_true hx]) (wpc_seq (wpc_reg ?_))
      simp only [↓stU, stD, reduceEqDiff, ↓reduceIte, reduceAdd]
      refine wpc_ret ?_
      simp only [↓stU, stD, reduceEqDiff, ↓reduceIte, reduceAdd]
      exact .inr ⟨by rw [hn], hX⟩
    rw [if_neg hx] at hn
    refine wpc_non (by simp only [↓stU, stD, reduceEqDiff, ↓reduceIte, decide_eq_false hx]) (wpc_skip ?_)
    try simp only [↓stU, stD, reduceEqDiff, ↓reduceIte, reduceAdd]
    have hh := head_le hX1 (show 0 < l.length by omega) (show i + 1 ≤ l.length by omega)
    have hsl := fun (F : Fr) (hy : tmpV 24 F = .int .i64 ((i + 1 : Nat) : Int)) => slc_le hX1 (show 0 < l.length by omega) (show i + 1 ≤ l.length by omega) (F := F) (x := .t 24) (by show natOf (tmpV 24 F) = _; rw [hy]; exact natOf_cast _ _)
    have hpl : ∀ y ∈ l.take (i + 1), 1 ≤ y := fun y hy => by
      rw [hget] at hy
      rcases List.mem_append.1 hy with hy | hy
      · exact (hall y hy).1
      · rw [List.mem_singleton.1 hy]; omega
    refine wsr ?_
    simp only [↓stU, stD, reduceEqDiff, ↓reduceIte, reduceAdd, p0, p15, wadd1 (a := i) (by omega), hsl]
    refine wpo_call ?_
    simp only [↓stU, stD, reduceEqDiff, ↓reduceIte, reduceAdd]
    refine wpf_mono (product_spec H hh hpl (by rw [List.length_take]; omega)) ?_
    rintro _ Y ⟨rfl, y⟩
    have hpc2 : prC (l.take (i + 1)) = if 1000 < szP 1 (l.take i) * x then 1001 else szP 1 (l.take i) * x := by
      rw [hget, prC_snoc, show prC (l.take i) = szP 1 (l.take i) from hpc, prF_in z1]
    rw [hpc2]
    by_cases hb : 1000 < szP 1 (l.take i) * x
    · rw [if_pos hb] at hn ⊢
      simp only [↓stU, stD, reduceEqDiff, ↓reduceIte, reduceAdd, decide_eq_true (show (1000 : Int) < 1001 by decide)]
      refine wpc_yes (by simp only [↓stU, stD, reduceEqDiff, ↓reduceIte]) (wpc_seq (wpc_reg ?_))
      simp only [↓stU, stD, reduceEqDiff, ↓reduceIte, reduceAdd]
      refine wpc_ret ?_
      simp only [↓stU, stD, reduceEqDiff, ↓reduceIte, reduceAdd]
      exact .inr ⟨by rw [hn], hX.trans y⟩
    rw [if_neg hb]
    simp only [↓stU, stD, reduceEqDiff, ↓reduceIte, reduceAdd, decide_eq_false hb]
    refine wpc_non (by simp only [↓stU, stD, reduceEqDiff, ↓reduceIte]) (wpc_skip ?_)
    try simp only [↓stU, stD, reduceEqDiff, ↓reduceIte, reduceAdd]
    refine wpc_reg ?_
    simp only [↓stU, stD, reduceEqDiff, ↓reduceIte, reduceAdd, p15, wadd1 (a := i) (by omega)]
    exact ⟨k - 1, by omega, rfl, hX.trans y, by simp only [↓stU, stD, reduceEqDiff, ↓reduceIte, p0], by simp only [↓stU, stD, reduceEqDiff, ↓reduceIte, p13], by simp only [↓stU, stD, reduceEqDiff, ↓reduceIte, p14], i + 1, by omega, by simp only [↓stU, stD, reduceEqDiff, ↓reduceIte, reduceAdd], (hst hx hb).1⟩
  rintro o ⟨F1, inr⟩ X (⟨rfl, q0, hX, _, _, _, i, hik, _, hz⟩ | ⟨rfl, p2, hX⟩)
  rotate_left
  · simp only at p2
    simp only [↓stU, stD, reduceEqDiff, ↓reduceIte, p2]
    exact hX
  simp only at q0
  subst q0
  obtain rfl : i = l.length := by omega
  rw [List.take_length] at hz
  try simp only [↓stU, stD, reduceEqDiff, ↓reduceIte, reduceAdd]
  refine wsr ?_
  simp only [↓stU, stD, reduceEqDiff, ↓reduceIte, reduceAdd]
  refine wpc_ret ?_
  simp only [↓stU, stD, reduceEqDiff, ↓reduceIte, reduceAdd]
  exact ⟨by rw [hz], hX⟩
end Go.Ev.Gl

namespace Go.Ev.Gl
variable {fns : T AFn}

/-! ## The reference's sizes; numbers of profiles -/
theorem szE_bd {l : List Int} {i : Nat} (hi : i < l.length) (h : szE 1 (l.take i) = 0) : 1 ≤ szP 1 (l.take i) ∧ szP 1 (l.take i) ≤ 1000 := (szE_ok (by decide) (by decide) h).2
def XpI (S : St) (v : AV) (l : List Int) (k : Nat) (A : Act') (X : St) : Prop := A.inr = false ∧ Same S X ∧ tmpV 0 A.F = v ∧ ∃ i, i + k = l.length ∧ tmpV 5 A.F = .int .i64 ((i : Nat) : Int) ∧ tmpV 4 A.F = .int .i64 (szP 1 (l.take i)) ∧ szE 1 (l.take i) = 0
set_option maxHeartbeats 4000000 in
theorem xproduct_spec {S : St} {v : AV} {l : List Int} (H : Has fns) (h : IsSl .i64 S v l) : wpf fns (.fn 20 [] []) [v] S fun r S' => r = .tup [.int .i64 (if szT l = 0 then szP 1 l else 0), .int .i64 (szT l)] ∧ Same S S' := by
  refine wpf_fn H.f20 (by simp) ?_
  simp only [↓stU, stD, reduceEqDiff, ↓reduceIte, reduceAdd]
  refine wsr ?_
  simp only [↓stU, stD, reduceEqDiff, ↓reduceIte, reduceAdd]
  refine wss ?_
  by_cases c1 : ((l.length : Nat) : Int) < 1
  · have eT : szT l = 2 := by unfold szT; rw [if_pos (.inl (by omega))]
    rw [eT, if_neg (by decide)]
    simp only [↓stU, stD, reduceEqDiff, ↓reduceIte, reduceAdd, h.len, Int.ofNat_eq_natCast, decide_eq_true c1]
    refine wpc_yes (by simp only [↓stU, stD, reduceEqDiff, ↓reduceIte]; try rfl) (wpc_seq (wpc_reg ?_))
    simp only [↓stU, stD, reduceEqDiff, ↓reduceIte, reduceAdd]
    refine wpc_ret ?_
    simp only [↓stU, stD, reduceEqDiff, ↓reduceIte, reduceAdd]
    exact Same.refl _
  by_cases c2 : (4 : Int) < ((l.length : Nat) : Int)
  · have eT : szT l = 2 := by unfold szT; rw [if_pos (.inr (by omega))]
    rw [eT, if_neg (by decide)]
    simp only [↓stU, stD, reduceEqDiff, ↓reduceIte, reduceAdd, h.len, Int.ofNat_eq_natCast, decide_eq_false c1, decide_eq_true c2]
    refine wpc_yes (by simp only [↓stU, stD, reduceEqDiff, ↓reduceIte]; try rfl) (wpc_seq (wpc_reg ?_))
    simp only [↓stU, stD, reduceEqDiff, ↓reduceIte, reduceAdd]
    refine wpc_ret ?_
    simp only [↓stU, stD, reduceEqDiff, ↓reduceIte, reduceAdd]
    exact Same.refl _
  have eT : szT l = szE 1 l := by unfold szT; rw [if_neg (by omega)]
  rw [eT]
  simp only [↓stU, stD, reduceEqDiff, ↓reduceIte, reduceAdd, h.len, Int.ofNat_eq_natCast, decide_eq_false c1, decide_eq_false c2]
  refine wpc_non (by simp only [↓stU, stD, reduceEqDiff, ↓reduceIte]; try rfl) (wpc_skip ?_)
  try simp only [↓stU, stD, reduceEqDiff, ↓reduceIte, reduceAdd]
  refine wsr ?_
  simp only [↓stU, stD, reduceEqDiff, ↓reduceIte, reduceAdd]
  refine wpc_seq (wpc_mono (Q := fun o A' X => (o = .normal ∧ XpI S v l 0 A' X) ∨ (o = .ret ∧ szE 1 l ≠ 0 ∧ tmpV 2 A'.F = .int .i64 0 ∧ tmpV 3 A'.F = .int .i64 (szE 1 l) ∧ Same S X)) (wpc_seq (wpc_reg ?_)) ?_)
  · simp only [↓stU, stD, reduceEqDiff, ↓reduceIte, reduceAdd]
    refine wpc_block (wpc_loop (XpI S v l) ?_ l.length _ _ ⟨rfl, Same.refl _, by simp only [↓stU, stD, reduceEqDiff, ↓reduceIte, reduceAdd], 0, by omega, by simp only [↓stU, stD, reduceEqDiff, ↓reduceIte, reduceAdd]; try rfl, by simp only [↓stU, stD, reduceEqDiff, ↓reduceIte, reduceAdd]; try rfl, rfl⟩)
    rintro k ⟨F1, inr⟩ X ⟨q0, hX, p0, i, hik, p5, p4, hz⟩
    simp only at q0 p0 p5 p4
    subst q0
    have hX1 := h.same hX
    have lX := hX1.len
    simp only [Int.ofNat_eq_natCast] at lX
    refine wss ?_
    simp only [↓stU, stD, reduceEqDiff, ↓reduceIte, reduceAdd, p0, p5, lX, dlt]
    by_cases hlt : i < l.length
    rotate_left
    · refine wpc_non (by simp only [↓stU, stD, reduceEqDiff, ↓reduceIte, decide_eq_false hlt]) (wpc_exit ?_)
      obtain rfl : k = 0 := by omega
      exact .inl ⟨rfl, rfl, hX, by simp only [↓stU, stD, reduceEqDiff, ↓reduceIte, p0], i, hik, by simp only [↓stU, stD, reduceEqDiff, ↓reduceIte, p5], by simp only [↓stU, stD, reduceEqDiff, ↓reduceIte, p4], hz⟩
    refine wpc_yes (by simp only [↓stU, stD, reduceEqDiff, ↓reduceIte, decide_eq_true hlt]) (wpc_skip ?_)
    try simp only [↓stU, stD, reduceEqDiff, ↓reduceIte]
    have ia := hX1.iaddr hlt
    have la := hX1.ld hlt
    have hn := szE_next hlt hz
    have hst := szE_step hlt hz
    obtain ⟨z1, z2⟩ := szE_bd hlt hz
    generalize l.getD i 0 = x at *
    refine wpc_seq (wpc_block (wpc_seq (wpc_seq (wpc_reg ?_))))
    simp only [↓stU, stD, reduceEqDiff, ↓reduceIte, reduceAdd, p0, p5, natOf_cast, ia, la]
    by_cases hx : x < 1
    · rw [if_pos hx] at hn
      refine wpc_yes (by simp only [↓stU, stD, reduceEqDiff, ↓reduceIte, decide_eq_true hx]) (wpc_seq (wpc_reg ?_))
      simp only [↓stU, stD, reduceEqDiff, ↓reduceIte, reduceAdd]
      refine wpc_ret ?_
      simp only [↓stU, stD, reduceEqDiff, ↓reduceIte, reduceAdd]
      exact .inr ⟨by rw [hn]; decide, by rw [hn], hX⟩
    rw [if_neg hx] at hn
    refine wpc_non (by simp only [↓stU, stD, reduceEqDiff, ↓reduceIte, decide_eq_false hx]) (wpc_skip ?_)
    try simp only [↓stU, stD, reduceEqDiff, ↓reduceIte, reduceAdd]
    have hsx : 1 * x ≤ szP 1 (l.take i) * x := Int.mul_le_mul_of_nonneg_right z1 (by omega)
    refine wss ?_
    by_cases hb0 : 1000 < x
    · rw [if_pos (show 1000 < szP 1 (l.take i) * x by omega)] at hn
      simp only [↓stU, stD, reduceEqDiff, ↓reduceIte, reduceAdd, p0, p4, p5, natOf_cast, ia, la, decide_eq_true hb0]
      refine wpc_yes (by simp only [↓stU, stD, reduceEqDiff, ↓reduceIte]; try rfl) (wpc_seq (wpc_reg ?_))
      simp only [↓stU, stD, reduceEqDiff, ↓reduceIte, reduceAdd]
      refine wpc_ret ?_
      simp only [↓stU, stD, reduceEqDiff, ↓reduceIte, reduceAdd]
      exact .inr ⟨by rw [hn]; decide, by rw [hn], hX⟩
    have m2 : szP 1 (l.take i) * x ≤ 1000 * 1000 := Int.mul_le_mul z2 (by omega) (by omega) (by decide)
    have w : IntKind.i64.wrap (szP 1 (l.take i) * x) = szP 1 (l.take i) * x := wrap_i64 (by omega) (by omega)
    by_cases hb : 1000 < szP 1 (l.take i) * x
    · rw [if_pos hb] at hn
      simp only [↓stU, stD, reduceEqDiff, ↓reduceIte, reduceAdd, p0, p4, p5, natOf_cast, ia, la, decide_eq_false hb0, w, decide_eq_true hb]
      refine wpc_yes (by simp only [↓stU, stD, reduceEqDiff, ↓reduceIte]; try rfl) (wpc_seq (wpc_reg ?_))
      simp only [↓stU, stD, reduceEqDiff, ↓reduceIte, reduceAdd]
      refine wpc_ret ?_
      simp only [↓stU, stD, reduceEqDiff, ↓reduceIte, reduceAdd]
      exact .inr ⟨by rw [hn]; decide, by rw [hn], hX⟩
    simp only [↓stU, stD, reduceEqDiff, ↓reduceIte, reduceAdd, p0, p4, p5, natOf_cast, ia, la, decide_eq_false hb0, w, decide_eq_false hb]
    refine wpc_non (by simp only [↓stU, stD, reduceEqDiff, ↓reduceIte]; try rfl) (wpc_skip ?_)
    try simp only [↓stU, stD, reduceEqDiff, ↓reduceIte, reduceAdd]
    refine wpc_reg ?_
    simp only [↓stU, stD, reduceEqDiff, ↓reduceIte, reduceAdd, p0, p4, p5, natOf_cast, ia, la, w]
    refine wpc_reg ?_
    simp only [↓stU, stD, reduceEqDiff, ↓reduceIte, reduceAdd, p5, wadd1 (a := i) (by omega)]
    obtain ⟨t1, t2⟩ := hst hx hb
    exact ⟨k - 1, by omega, rfl, hX, by simp only [↓stU, stD, reduceEqDiff, ↓reduceIte, p0], i + 1, by omega, by simp only [↓stU, stD, reduceEqDiff, ↓reduceIte, reduceAdd], by rw [t2]; simp only [↓stU, stD, reduceEqDiff, ↓reduceIte, reduceAdd], t1⟩
  rintro o ⟨F1, inr⟩ X (⟨rfl, q0, hX, _, i, hik, _, p4, hz⟩ | ⟨rfl, hne, p2, p3, hX⟩)
  rotate_left
  · simp only at p2 p3
    simp only [↓stU, stD, reduceEqDiff, ↓reduceIte, p2, p3]
    exact ⟨by rw [if_neg hne], hX⟩
  simp only at q0 p4
  subst q0
  obtain rfl : i = l.length := by omega
  rw [List.take_length] at hz p4
  try simp only [↓stU, stD, reduceEqDiff, ↓reduceIte, reduceAdd]
  refine wsr ?_
  simp only [↓stU, stD, reduceEqDiff, ↓reduceIte, reduceAdd, p4]
  refine wpc_ret ?_
  simp only [↓stU, stD, reduceEqDiff, ↓reduceIte, reduceAdd]
  exact ⟨by rw [hz, if_pos rfl], hX⟩
end Go.Ev.Gl
