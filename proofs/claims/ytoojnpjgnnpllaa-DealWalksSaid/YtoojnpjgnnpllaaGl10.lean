/- Contracts (10): rational numbers, the statements' tools, the law. -/
import Derived.Test.YtoojnpjgnnpllaaGl9
set_option maxHeartbeats 4000000
set_option linter.unusedSimpArgs false
set_option linter.unusedVariables false
namespace Go.Ev.Gl
variable {fns : T AFn}

/-! ## agree, Equal -/
end Go.Ev.Gl

namespace Go.Ev.Gl
variable {fns : T AFn}

/-! ## A region of plain operations with one guarded call and what is made of its result -/
/-! ## Some blocks alone are written -/
def ButW (W : Nat → Prop) (S X : St) : Prop := S.nx ≤ X.nx ∧ ∀ c, c < S.nx → ¬ W c → X.h.get c = S.h.get c
section
variable {W : Nat → Prop} {S X Y : St} {b : Nat}
theorem ButW.refl (W : Nat → Prop) (S : St) : ButW W S S := ⟨Nat.le_refl _, fun _ _ _ => rfl⟩
theorem ButW.trans (h : ButW W S X) (h' : ButW W X Y) : ButW W S Y := ⟨Nat.le_trans h.1 h'.1, fun c hc hw => (h'.2 c (Nat.lt_of_lt_of_le hc h.1) hw).trans (h.2 c hc hw)⟩
theorem ButW.same {S0 : St} (h : ButW W S X) (h0 : Same S0 S) (hW : ∀ b, W b → S0.nx ≤ b) : Same S0 X := ⟨Nat.le_trans h0.1 h.1, fun c hc => (h.2 c (Nat.lt_of_lt_of_le hc h0.1) fun hw => by have := hW c hw; omega).trans (h0.2 c hc)⟩
end
/-- where the walk's variables lie -/
structure Lay where
  sb : Nat
  ob : Nat
  fb : Nat
  mb : Nat
  kb : Nat
  wb : Nat
  ib : Nat
  rb : Nat
  ab : Nat
  bs : Nat → Nat
  cs : List AV
/-- the blocks that it writes -/
def Lay.W (L : Lay) (n c : Nat) : Prop := c = L.ib ∨ c = L.rb ∨ ∃ j, j < n ∧ c = L.bs j
def Lay.fn (L : Lay) : AV := .fn 156 [] [.ptr L.sb 0, .ptr L.ob 0, .ptr L.fb 0, .ptr L.mb 0, .ptr L.kb 0]
structure Laid (L : Lay) (S0 S1 : St) (n : Nat) (mv : AV) : Prop where
  s01 : Same S0 S1
  gs : S1.h.get L.sb = some (.cells [.ptr L.wb 0] false 0)
  go : S1.h.get L.ob = some (.cells [.sl L.ib 0 n n false, .sl L.ab 0 n n false] false 0)
  gf : S1.h.get L.fb = some (.cells [.sl L.rb 0 n n false] false 0)
  gm : S1.h.get L.mb = some (.cells [mv] false 0)
  gk : S1.h.get L.kb = some (.cells [L.fn] false 0)
  ga : S1.h.get L.ab = some (.cells L.cs false 0)
  ls : L.sb < S1.nx ∧ ¬ L.W n L.sb
  lo : L.ob < S1.nx ∧ ¬ L.W n L.ob
  lf : L.fb < S1.nx ∧ ¬ L.W n L.fb
  lm : L.mb < S1.nx ∧ ¬ L.W n L.mb
  lk : L.kb < S1.nx ∧ ¬ L.W n L.kb
  la : L.ab < S1.nx ∧ ¬ L.W n L.ab
  w0 : ∀ b, L.W n b → S0.nx ≤ b ∧ b < S1.nx
  ir : L.ib ≠ L.rb
  is : ∀ j, j < n → L.ib ≠ L.bs j ∧ L.rb ≠ L.bs j
structure Dyn (L : Lay) (S0 X : St) (I F : List Int) (A : List (List Int)) : Prop where
  gi : X.h.get L.ib = some (.cells (cells64 I) false 0)
  gr : X.h.get L.rb = some (.cells (cells64 F) false 0)
  rw : Rws S0 X L.bs L.cs A
section
variable {L : Lay} {S0 S1 X Y : St} {n : Nat} {mv : AV} {I F : List Int} {A : List (List Int)}
theorem Laid.s (h : Laid L S0 S1 n mv) (hX : ButW (L.W n) S1 X) : X.h.get L.sb = some (.cells [.ptr L.wb 0] false 0) := (hX.2 _ h.ls.1 h.ls.2).trans h.gs
theorem Laid.o (h : Laid L S0 S1 n mv) (hX : ButW (L.W n) S1 X) : X.h.get L.ob = some (.cells [.sl L.ib 0 n n false, .sl L.ab 0 n n false] false 0) := (hX.2 _ h.lo.1 h.lo.2).trans h.go
theorem Laid.f (h : Laid L S0 S1 n mv) (hX : ButW (L.W n) S1 X) : X.h.get L.fb = some (.cells [.sl L.rb 0 n n false] false 0) := (hX.2 _ h.lf.1 h.lf.2).trans h.gf
theorem Laid.m (h : Laid L S0 S1 n mv) (hX : ButW (L.W n) S1 X) : X.h.get L.mb = some (.cells [mv] false 0) := (hX.2 _ h.lm.1 h.lm.2).trans h.gm
theorem Laid.k (h : Laid L S0 S1 n mv) (hX : ButW (L.W n) S1 X) : X.h.get L.kb = some (.cells [L.fn] false 0) := (hX.2 _ h.lk.1 h.lk.2).trans h.gk
theorem Laid.a (h : Laid L S0 S1 n mv) (hX : ButW (L.W n) S1 X) : X.h.get L.ab = some (.cells L.cs false 0) := (hX.2 _ h.la.1 h.la.2).trans h.ga
theorem Laid.same (h : Laid L S0 S1 n mv) (hX : ButW (L.W n) S1 X) : Same S0 X := hX.same h.s01 fun b hb => (h.w0 b hb).1
theorem Laid.move (h : Laid L S0 S1 n mv) (hX : ButW (L.W n) S1 X) : Laid L S0 X n mv :=
  ⟨h.same hX, h.s hX, h.o hX, h.f hX, h.m hX, h.k hX, h.a hX, ⟨Nat.lt_of_lt_of_le h.ls.1 hX.1, h.ls.2⟩, ⟨Nat.lt_of_lt_of_le h.lo.1 hX.1, h.lo.2⟩, ⟨Nat.lt_of_lt_of_le h.lf.1 hX.1, h.lf.2⟩, ⟨Nat.lt_of_lt_of_le h.lm.1 hX.1, h.lm.2⟩, ⟨Nat.lt_of_lt_of_le h.lk.1 hX.1, h.lk.2⟩, ⟨Nat.lt_of_lt_of_le h.la.1 hX.1, h.la.2⟩, fun b hb => ⟨(h.w0 b hb).1, Nat.lt_of_lt_of_le (h.w0 b hb).2 hX.1⟩, h.ir, h.is⟩
theorem Dyn.same (h : Dyn L S0 X I F A) (hL : Laid L S0 S1 n mv) (h1 : S1.nx ≤ X.nx) (hs : Same X Y) : Dyn L S0 Y I F A :=
  ⟨(hs.2 _ (Nat.lt_of_lt_of_le (hL.w0 _ (.inl rfl)).2 h1)).trans h.gi, (hs.2 _ (Nat.lt_of_lt_of_le (hL.w0 _ (.inr (.inl rfl))).2 h1)).trans h.gr, h.rw.same hs⟩
end
end Go.Ev.Gl

namespace Go.Ev.Gl
variable {fns : T AFn}

/-! ## The program's walk over pairs of nodes -/
end Go.Ev.Gl

namespace Go.Ev.Gl
variable {fns : T AFn}

/-! ## The program's image -/
def ImgP (g : PGame) (m : List Int) (S S' : St) (x y : AV) : Prop := Own64 S S' x (imgI g m) ∧ ∃ ab bs cs, y = .sl ab 0 (imgA g m).length (imgA g m).length false ∧ S.nx ≤ ab ∧ ab < S'.nx ∧ S'.h.get ab = some (.cells cs false 0) ∧ Rws S S' bs cs (imgA g m)

end Go.Ev.Gl

namespace Go.Ev.Gl
variable {fns : T AFn}

/-! ## SymmetryMaps -/
theorem ImgP.i {g : PGame} {m : List Int} {S S' : St} {x y : AV} (h : ImgP g m S S' x y) : IsSl .i64 S' x (imgI g m) := h.1.is
theorem ImgP.a {g : PGame} {m : List Int} {S S' : St} {x y : AV} (h : ImgP g m S S' x y) : IsSlG 1 SlE S' y (imgA g m) := by
  obtain ⟨_, ab, bs, cs, rfl, k2, k3, k4, k5⟩ := h
  exact k5.is k4 k3 (Nat.le_refl _)
theorem XImgP.i {g : PGame} {m : List Int} {S S' : St} {x y : AV} (h : XImgP g m S S' x y) : IsSl .i64 S' x (imgI g m) := by
  have h1 := h.1
  rw [show g.infos.length = (imgI g m).length by simp [imgI]] at h1
  exact h1.is
theorem XImgP.a {g : PGame} {m : List Int} {S S' : St} {x y : AV} (h : XImgP g m S S' x y) : IsSlG 1 SlE S' y (imgA g m) := by
  obtain ⟨_, cs, bs, h2, h3⟩ := h
  have hl : (imgA g m).length = g.infos.length := by simp [imgA]
  rcases h2 with ⟨rfl, h0, _⟩ | ⟨b, rfl, h4, h5, h6, _⟩
  · exact .inl ⟨List.length_eq_zero_iff.1 (by omega), .inl rfl⟩
  · have := h3.is (cap := g.infos.length) (o' := true) h6 h5 (by omega)
    rw [hl] at this
    exact this
end Go.Ev.Gl

namespace Go.Ev.Gl

/-! ## Games and lists as arguments -/
theorem IsSlG.conv {k : Nat} {α β : Type} {E : St → List AV → α → Prop} {E' : St → List AV → β → Prop} {f : α → β} {S : St} {v : AV} {l : List α} (hf : ∀ e a, E S e a → E' S e (f a)) (h : IsSlG k E S v l) : IsSlG k E' S v (l.map f) := by
  rcases h with ⟨rfl, h⟩ | ⟨b, off, cap, o, cs, rfl, h2, h3, h4, h5⟩
  · exact .inl ⟨rfl, h⟩
  · refine .inr ⟨b, off, cap, o, cs, by rw [List.length_map], by rw [List.length_map]; exact h2, h3, h4, fun i a hi => ?_⟩
    rw [List.getElem?_map, Option.map_eq_some_iff] at hi
    obtain ⟨x, hx, rfl⟩ := hi
    obtain ⟨e, e1, e2, e3⟩ := h5 i x hx
    exact ⟨e, e1, e2, hf e x e3⟩
theorem isSl_ints {k : IntKind} {S : St} {v : AV} {l : List Int} (h : IsSlG 1 (IntE k) S v l) : IsSl k S v l := by
  rcases h with h | ⟨b, off, cap, o, cs, rfl, h2, h3, h4, h5⟩
  · exact .inl h
  · refine .inr ⟨b, off, cap, o, cs, rfl, h2, h3, h4, fun i x hi => ?_⟩
    obtain ⟨e, e1, e2, rfl, _⟩ := h5 i x hi
    have := e2 0 _ rfl
    rw [Nat.mul_one, Nat.add_zero] at this
    exact this
abbrev EInts (k : IntKind) : St → List AV → List Int → Prop := SlOf 1 (IntE k)
abbrev EN1 : St → List AV → (List Int × Unit) → Prop := ConsE (EInts .i64) NoE
abbrev EN2 : St → List AV → (List Int × List Int × Unit) → Prop := ConsE (EInts .i64) EN1
abbrev EN3 : St → List AV → (List Int × List Int × List Int × Unit) → Prop := ConsE (EInts .i64) EN2
abbrev EN4 : St → List AV → (Int × List Int × List Int × List Int × Unit) → Prop := ConsE (IntE .i64) EN3
abbrev EN5 : St → List AV → (Int × Int × List Int × List Int × List Int × Unit) → Prop := ConsE (IntE .i64) EN4
abbrev ENode : St → List AV → (Int × Int × Int × List Int × List Int × List Int × Unit) → Prop := ConsE (IntE .i64) EN5
abbrev EI1 : St → List AV → (Int × Unit) → Prop := ConsE (IntE .i64) NoE
abbrev EInfo : St → List AV → (Int × Int × Unit) → Prop := ConsE (IntE .i64) EI1
abbrev EG1 : St → List AV → (List (Int × Int × Unit) × Unit) → Prop := ConsE (SlOf 2 EInfo) NoE
abbrev EG2 : St → List AV → (List (Int × Int × Int × List Int × List Int × List Int × Unit) × List (Int × Int × Unit) × Unit) → Prop := ConsE (SlOf 6 ENode) EG1
abbrev EGame : St → List AV → (Int × List (Int × Int × Int × List Int × List Int × List Int × Unit) × List (Int × Int × Unit) × Unit) → Prop := ConsE (IntE .i64) EG2
theorem firm_ints {k : IntKind} : Firm (EInts k) := Ev.firm_sl (E := IntE k) firm_int
theorem firm_n1 : Firm EN1 := firm_cons (E := EInts .i64) (R := NoE) firm_ints firm_no
theorem firm_n2 : Firm EN2 := firm_cons (E := EInts .i64) (R := EN1) firm_ints firm_n1
theorem firm_n3 : Firm EN3 := firm_cons (E := EInts .i64) (R := EN2) firm_ints firm_n2
theorem firm_n4 : Firm EN4 := firm_cons (E := IntE .i64) (R := EN3) firm_int firm_n3
theorem firm_n5 : Firm EN5 := firm_cons (E := IntE .i64) (R := EN4) firm_int firm_n4
theorem firm_enode : Firm ENode := firm_cons (E := IntE .i64) (R := EN5) firm_int firm_n5
theorem firm_i1 : Firm EI1 := firm_cons (E := IntE .i64) (R := NoE) firm_int firm_no
theorem firm_einfo : Firm EInfo := firm_cons (E := IntE .i64) (R := EI1) firm_int firm_i1
def nodeT (a : Int × Int × Int × List Int × List Int × List Int × Unit) : PNode := ⟨a.1, a.2.1, a.2.2.1, a.2.2.2.1, a.2.2.2.2.1, a.2.2.2.2.2.1⟩
def infoT (a : Int × Int × Unit) : PInfo := ⟨a.1, a.2.1⟩
theorem ints_is {k : IntKind} {S : St} {avs : List AV} {l : List Int} (h : EInts k S avs l) : ∃ v, avs = [v] ∧ IsSl k S v l := by
  obtain ⟨v, h1, h2⟩ := SlOf.is h
  exact ⟨v, h1, isSl_ints h2⟩
theorem node_is {S : St} {e : List AV} {a : Int × Int × Int × List Int × List Int × List Int × Unit} (h : ENode S e a) : NodeE S e (nodeT a) := by
  obtain ⟨_, _, rfl, ⟨rfl, _⟩, _, _, rfl, ⟨rfl, _⟩, _, _, rfl, ⟨rfl, _⟩, _, _, rfl, h1, _, _, rfl, h2, _, _, rfl, h3, rfl⟩ := h
  obtain ⟨v1, rfl, i1⟩ := ints_is h1
  obtain ⟨v2, rfl, i2⟩ := ints_is h2
  obtain ⟨v3, rfl, i3⟩ := ints_is h3
  exact ⟨v1, v2, v3, rfl, i1, i2, i3⟩
theorem info_is {S : St} {e : List AV} {a : Int × Int × Unit} (h : EInfo S e a) : InfoE S e (infoT a) := by
  obtain ⟨_, _, rfl, ⟨rfl, _⟩, _, _, rfl, ⟨rfl, _⟩, rfl⟩ := h
  rfl
/-- the lists of a game are no longer than what a process may hold -/
def Tame (g : PGame) : Prop := g.infos.length * 16 ≤ 140737488355328 ∧ ∀ x ∈ g.nodes, x.next.length * 8 ≤ 140737488355328 ∧ x.weights.length * 8 ≤ 140737488355328 ∧ x.pay.length * 8 ≤ 140737488355328
theorem sl_bound {k : Nat} {α : Type} {E : St → List AV → α → Prop} {S : St} {avs : List AV} {l : List α} (h : SlOf k E S avs l) : l.length * (8 * k) ≤ 140737488355328 := by
  obtain ⟨_, _, h, _⟩ := h
  exact h
theorem sl_elem {k : Nat} {α : Type} {E : St → List AV → α → Prop} {S : St} {avs : List AV} {l : List α} (h : SlOf k E S avs l) {a : α} (ha : a ∈ l) : ∃ cs, E S cs a := by
  obtain ⟨_, _, _, ⟨rfl, _⟩ | ⟨b, cap, css, _, _, _, _, h5, h6⟩⟩ := h
  · cases ha
  · obtain ⟨i, hi⟩ := List.mem_iff_getElem?.1 ha
    have hlt := (List.getElem?_eq_some_iff.1 hi).1
    exact ⟨_, (h6 i css[i] a (List.getElem?_eq_getElem (by omega)) hi).2⟩
theorem node_tame {S : St} {e : List AV} {a : Int × Int × Int × List Int × List Int × List Int × Unit} (h : ENode S e a) : (nodeT a).next.length * 8 ≤ 140737488355328 ∧ (nodeT a).weights.length * 8 ≤ 140737488355328 ∧ (nodeT a).pay.length * 8 ≤ 140737488355328 := by
  obtain ⟨_, _, rfl, ⟨rfl, _⟩, _, _, rfl, ⟨rfl, _⟩, _, _, rfl, ⟨rfl, _⟩, _, _, rfl, h1, _, _, rfl, h2, _, _, rfl, h3, rfl⟩ := h
  exact ⟨sl_bound h1, sl_bound h2, sl_bound h3⟩
theorem game_is {S : St} {avs : List AV} {a : Int × List (Int × Int × Int × List Int × List Int × List Int × Unit) × List (Int × Int × Unit) × Unit} (h : EGame S avs a) : ∃ nv iv, ∃ g : PGame, avs = [.int .i64 g.players, nv, iv] ∧ IsSlG 6 NodeE S nv g.nodes ∧ IsSlG 2 InfoE S iv g.infos ∧ Tame g := by
  obtain ⟨_, _, rfl, ⟨rfl, _⟩, _, _, rfl, h1, _, _, rfl, h2, rfl⟩ := h
  obtain ⟨v1, rfl, i1⟩ := SlOf.is h1
  obtain ⟨v2, rfl, i2⟩ := SlOf.is h2
  refine ⟨v1, v2, ⟨a.1, a.2.1.map nodeT, a.2.2.1.map infoT⟩, rfl, IsSlG.conv (fun e x h => node_is h) i1, IsSlG.conv (fun e x h => info_is h) i2, ⟨(by have := sl_bound h2; rw [List.length_map]; exact this), fun x hx => ?_⟩⟩
  obtain ⟨y, hy, rfl⟩ := List.mem_map.1 hx
  obtain ⟨cs, hcs⟩ := sl_elem h1 hy
  exact node_tame hcs
section
variable {P : Program} {σ : Env} {S : St} {w : World}
/-- a value of several cells -/
theorem agg_of {v : Value} {n : Nat} (hn : n ≠ 1) (hl : v.cells.toList.length = n) : v = .agg ⟨v.cells.toList⟩ := by
  cases v with
  | agg cs => rfl
  | _ => exact absurd (by simpa [Value.cells] using hl.symm) hn
/-- a game as an argument -/
theorem arg_game {t : TypeId} {H : Type} {enc : TypeId × Value → H} {base : Nat} {spare : Nat → Bool} {held : Bool} {fuel : Nat} {v : Value} {x : DataW H × List MemPlace} (hR : Rep P σ S w) (hn : NoOwn S) (hf : Fresh S) (hG : P.globals.size ≤ S.nx) (hL : Lays P t EGame) (h : DataW.trod enc P w base spare held fuel t v.cells.toList = some x) (hW : ∀ n ∈ DataW.weights P t x.1, n ≤ 140737488355328) :
    ∃ σ' S' nv iv, ∃ g : PGame, Added P σ S w σ' S' ∧ Rv P σ' (.agg [.int .i64 g.players, nv, iv]) v ∧ IsSlG 6 NodeE S' nv g.nodes ∧ IsSlG 2 InfoE S' iv g.infos ∧ S.nx ≤ S'.nx ∧ Tame g := by
  obtain ⟨σ', S', avs, a, hA, hr, h1, hE, hnx⟩ := hL H enc σ S w base spare held fuel _ x hR hn hf hG h hW
  obtain ⟨nv, iv, g, rfl, i1, i2, hT⟩ := game_is hE
  refine ⟨σ', S', nv, iv, g, hA, ?_, i1, i2, hnx, hT⟩
  have hl := hr.length
  rw [agg_of (v := v) (n := 3) (by decide) (by rw [hl]; rfl)]
  simp only [Rv]
  exact ⟨_, rfl, hr, h1⟩
theorem lays_ints {t e : TypeId} {k : IntKind} (ht : P.underlying t = some (.slice e)) (he : P.underlying e = some (.int k)) (hc : P.cellsOf e = 1) (hby : 8 ≤ P.bytesOf e) : Lays P t (EInts k) := lays_slice ht hc (by decide) (by omega) (lays_int he) firm_int
/-- types of a game -/
theorem lays_game {tg tn tl ti tk ts e : TypeId} {fg fn fi : Array Field} (hg : P.underlying tg = some (.struct fg)) (hn : P.underlying tn = some (.struct fn)) (hi : P.underlying ti = some (.struct fi)) (hl : P.underlying tl = some (.slice tn)) (hk : P.underlying tk = some (.slice ti)) (hs : P.underlying ts = some (.slice e)) (he : P.underlying e = some (.int .i64))
    (cn : P.cellsOf tn = 6) (ci : P.cellsOf ti = 2) (ce : P.cellsOf e = 1) (cs : P.cellsOf ts = 1) (cl : P.cellsOf tl = 1) (ck : P.cellsOf tk = 1) (cg : P.cellsOf tg = 3) (be : 8 ≤ P.bytesOf e) (bn : 48 ≤ P.bytesOf tn) (bi : 16 ≤ P.bytesOf ti)
    (tsg : fg.toList.map (·.type) = [e, tl, tk]) (tsn : fn.toList.map (·.type) = [e, e, e, ts, ts, ts]) (tsi : fi.toList.map (·.type) = [e, e])
    (og : ∀ (i : Nat) (f : Field), fg[i]? = some f → f.offset = i) (on : ∀ (i : Nat) (f : Field), fn[i]? = some f → f.offset = i) (oi : ∀ (i : Nat) (f : Field), fi[i]? = some f → f.offset = i) : Lays P tg EGame := by
  have Li := lays_int he
  have Ls := lays_ints hs he ce be
  have Ln : Lays P tn ENode := by
    refine lays_struct hn tsn (fun i f h => ?_) (by simp [cn, ce, cs]) (laysF_cons (E := IntE .i64) (R := EN5) Li firm_int (laysF_cons (E := IntE .i64) (R := EN4) Li firm_int (laysF_cons (E := IntE .i64) (R := EN3) Li firm_int (laysF_cons (E := EInts .i64) (R := EN2) Ls firm_ints (laysF_cons (E := EInts .i64) (R := EN1) Ls firm_ints (laysF_cons (E := EInts .i64) (R := NoE) Ls firm_ints laysF_nil))))))
    rw [on i f h]
    have hlt : i < 6 := by
      have := (Array.getElem?_eq_some_iff.1 h).1
      have h6 := congrArg List.length tsn
      simp only [List.length_map, Array.length_toList, List.length_cons, List.length_nil] at h6
      omega
    match i, hlt with
    | 0, _ => simp
    | 1, _ => simp [ce]
    | 2, _ => simp [ce]
    | 3, _ => simp [ce]
    | 4, _ => simp [ce, cs]
    | 5, _ => simp [ce, cs]
  have Lin : Lays P ti EInfo := by
    refine lays_struct hi tsi (fun i f h => ?_) (by simp [ci, ce]) (laysF_cons (E := IntE .i64) (R := EI1) Li firm_int (laysF_cons (E := IntE .i64) (R := NoE) Li firm_int laysF_nil))
    rw [oi i f h]
    have hlt : i < 2 := by
      have := (Array.getElem?_eq_some_iff.1 h).1
      have h6 := congrArg List.length tsi
      simp only [List.length_map, Array.length_toList, List.length_cons, List.length_nil] at h6
      omega
    match i, hlt with
    | 0, _ => simp
    | 1, _ => simp [ce]
  have Lsn : Lays P tl (SlOf 6 ENode) := lays_slice hl cn (by decide) (by omega) Ln firm_enode
  have Lsi : Lays P tk (SlOf 2 EInfo) := lays_slice hk ci (by decide) (by omega) Lin firm_einfo
  refine lays_struct hg tsg (fun i f h => ?_) (by simp [cg, ce, cl, ck]) (laysF_cons (E := IntE .i64) (R := EG2) Li firm_int (laysF_cons (E := SlOf 6 ENode) (R := EG1) Lsn (Ev.firm_sl (E := ENode) firm_enode) (laysF_cons (E := SlOf 2 EInfo) (R := NoE) Lsi (Ev.firm_sl (E := EInfo) firm_einfo) laysF_nil)))
  rw [og i f h]
  have hlt : i < 3 := by
    have := (Array.getElem?_eq_some_iff.1 h).1
    have h6 := congrArg List.length tsg
    simp only [List.length_map, Array.length_toList, List.length_cons, List.length_nil] at h6
    omega
  match i, hlt with
  | 0, _ => simp
  | 1, _ => simp [ce]
  | 2, _ => simp [ce, cl]
end
end Go.Ev.Gl
