import Derived.Test.YtfmgnnfghdjpfaaEvZb
import Derived.OrdersIn
namespace Go.Ev

/-! ## Masks -/
section
variable {D : Nat → Prop}
theorem one_bits {look : Nat → Nat} {o : Oper} (h : ∀ e ∈ o.after, Region.binds .any e = true → D e.on ∧ ∀ b, Nat.testBit (look e.on) b = true → D b) : ∀ b, Nat.testBit (CheckFast.one look o) b = true → D b := by
  unfold CheckFast.one
  rw [← Array.foldl_toList]
  have key : ∀ (l : List Edge) (s : Nat), (∀ e ∈ l, Region.binds .any e = true → D e.on ∧ ∀ b, Nat.testBit (look e.on) b = true → D b) → (∀ b, Nat.testBit s b = true → D b) →
      ∀ b, Nat.testBit (l.foldl (fun s e => if Region.binds .any e then s ||| 2 ^ e.on ||| look e.on else s) s) b = true → D b := by
    intro l
    induction l with
    | nil => intro s _ hs b hb; exact hs b hb
    | cons e l ih =>
      intro s hl hs b hb
      rw [List.foldl_cons] at hb
      refine ih _ (fun e' he' => hl e' (List.mem_cons_of_mem _ he')) ?_ b hb
      intro c hc
      split at hc
      · rename_i hbi
        obtain ⟨h1, h2⟩ := hl e (by simp) hbi
        rw [Nat.testBit_or, Nat.testBit_or, Bool.or_eq_true, Bool.or_eq_true] at hc
        rcases hc with (hc | hc) | hc
        · exact hs c hc
        · rw [Nat.testBit_two_pow] at hc
          have : e.on = c := by simpa using hc
          rw [← this]; exact h1
        · exact h2 c hc
      · exact hs c hc
  exact key o.after.toList 0 (fun e he => h e (by simpa using he)) (fun b hb => by simp at hb)

theorem beforeL_bits : ∀ (l : List Oper) (j : Nat) (acc : List Nat), acc.length = j → (∀ i, i < j → D i → ∀ b, Nat.testBit (acc.getD (j - 1 - i) 0) b = true → D b) →
    (∀ k o, l[k]? = some o → D (j + k) → ∀ e ∈ o.after, Region.binds .any e = true → D e.on) →
    (∀ i, i < j → (CheckFast.beforeL l j acc).getD i 0 = acc.getD (j - 1 - i) 0) ∧
    ∀ k o, l[k]? = some o → (∀ e ∈ o.after, Region.binds .any e = true → D e.on) → ∀ b, Nat.testBit ((CheckFast.beforeL l j acc).getD (j + k) 0) b = true → D b
  | [], j, acc, hl, _, _ => by
    refine ⟨fun i hi => ?_, fun k o ho => by simp at ho⟩
    simp only [CheckFast.beforeL]
    rw [List.getD_eq_getElem?_getD, List.getD_eq_getElem?_getD, List.getElem?_reverse (by omega), hl]
  | o :: l, j, acc, hl, hacc, hcl => by
    simp only [CheckFast.beforeL, CheckFast.force_eq]
    have hv : (∀ e ∈ o.after, Region.binds .any e = true → D e.on) → ∀ b, Nat.testBit (CheckFast.one (fun i => if i < j then acc.getD (j - 1 - i) 0 else 0) o) b = true → D b := by
      intro hp
      refine one_bits fun e he hb => ⟨hp e he hb, fun b hbit => ?_⟩
      split at hbit
      · exact hacc _ ‹_› (hp e he hb) b hbit
      · simp at hbit
    have := beforeL_bits l (j + 1) (CheckFast.one (fun i => if i < j then acc.getD (j - 1 - i) 0 else 0) o :: acc) (by simp [hl]) ?_ ?_
    · obtain ⟨h1, h2⟩ := this
      refine ⟨fun i hi => ?_, fun k o' ho hp b hb => ?_⟩
      · rw [h1 i (by omega), show j + 1 - 1 - i = (j - 1 - i) + 1 by omega]; simp
      · cases k with
        | zero =>
          simp at ho; subst ho
          have h3 := h1 j (by omega)
          rw [show j + 1 - 1 - j = 0 by omega] at h3
          refine hv hp b ?_
          rw [show j + 0 = j from rfl, h3] at hb
          exact hb
        | succ k =>
          refine h2 k o' (by simpa using ho) hp b ?_
          rwa [show j + 1 + k = j + (k + 1) by omega]
    · intro i hi hDi b hb
      rcases Nat.lt_or_ge i j with h3 | h3
      · rw [show j + 1 - 1 - i = (j - 1 - i) + 1 by omega] at hb
        exact hacc i h3 hDi b (by simpa using hb)
      · have : i = j := by omega
        subst this
        rw [show i + 1 - 1 - i = 0 by omega] at hb
        exact hv (hcl 0 o (by simp) (by simpa using hDi)) b (by simpa using hb)
    · intro k o' ho hDk
      exact hcl (k + 1) o' (by simpa using ho) (by rwa [show j + (k + 1) = j + 1 + k by omega])
end

theorem cOpers_get {P : Program} {nt : Nat} {ops : Array Oper} : ∀ {l : List Oper} {ms : List Nat} {aos : List AO}, cOpers P nt ops l ms = some aos →
    aos.length = l.length ∧ ∀ j o, l[j]? = some o → ∃ ao, aos[j]? = some ao ∧ cOper P nt ops o (ms.getD j 0) = some ao
  | [], ms, aos, h => by
    simp only [cOpers, Option.some.injEq] at h
    subst h
    exact ⟨rfl, fun j o ho => by simp at ho⟩
  | o :: l, ms, aos, h => by
    simp only [cOpers] at h
    split at h
    · rename_i a as ha has
      cases h
      obtain ⟨h1, h2⟩ := cOpers_get has
      refine ⟨by simp [h1], fun j o' ho => ?_⟩
      cases j with
      | zero =>
        simp at ho; subst ho
        refine ⟨a, by simp, ?_⟩
        cases ms <;> simpa using ha
      | succ j =>
        obtain ⟨ao, h3, h4⟩ := h2 j o' (by simpa using ho)
        refine ⟨ao, by simpa using h3, ?_⟩
        cases ms <;> simpa using h4
    · cases h

/-! ## What is made and not yet laid -/
theorem flush_snd {m : Nat} : ∀ {ps : List Pend} {h : T AB} {b : Nat} {bl : AB}, (flush m ps h).2.get b = some bl → (∃ p ∈ ps, Nat.testBit m p.i = true ∧ p.id = b ∧ p.b = bl) ∨ h.get b = some bl
  | [], h, b, bl, e => .inr e
  | p :: ps, h, b, bl, e => by
    simp only [flush, bsel_eq] at e
    split at e
    · rename_i hb
      rcases flush_snd e with ⟨q, h1, h2⟩ | h1
      · exact .inl ⟨q, by simp [h1], h2⟩
      · rw [T.get_set] at h1
        split at h1
        · rename_i e'; cases h1; exact .inl ⟨p, by simp, hb, e'.symm, rfl⟩
        · exact .inr h1
    · rcases flush_snd e with ⟨q, h1, h2⟩ | h1
      · exact .inl ⟨q, by simp [h1], h2⟩
      · exact .inr h1
theorem flush_fst {m : Nat} : ∀ {ps : List Pend} {h : T AB} {p : Pend}, p ∈ (flush m ps h).1 → p ∈ ps ∧ Nat.testBit m p.i = false
  | [], h, p, e => by simp [flush] at e
  | q :: ps, h, p, e => by
    simp only [flush, bsel_eq] at e
    split at e
    · obtain ⟨h1, h2⟩ := flush_fst e; exact ⟨by simp [h1], h2⟩
    · rename_i hb
      rcases List.mem_cons.1 e with rfl | e
      · exact ⟨by simp, by simpa using hb⟩
      · obtain ⟨h1, h2⟩ := flush_fst e; exact ⟨by simp [h1], h2⟩

section
variable {aos : List AO} {base : Nat} {call : CallF} {Ds : Nat → DS}

def Made (aos : List AO) (base : Nat) (Ds : Nat → DS) (i : Nat) (b : AB) : Prop := ∃ o a v, aos[i]? = some o ∧ o.op = .a a ∧ wants o.grd (Ds i).F = true ∧ evA a (Ds i).F (base + i) = some (v, b)
def Laid (aos : List AO) (Ds : Nat → DS) (i s : Nat) : Prop := ∃ c o, c < s ∧ Chain aos Ds c ∧ aos[c]? = some o ∧ Nat.testBit o.mask i = true

theorem Tr.pend (h : Tr aos base call Ds) (h0 : (Ds 0).ps = []) (hb : ∀ k o i, aos[k]? = some o → Nat.testBit o.mask i = true → i < k) : ∀ k, k ≤ aos.length → ∀ p ∈ (Ds k).ps, p.i < k ∧ p.id = base + p.i ∧ Made aos base Ds p.i p.b ∧ ¬ Laid aos Ds p.i k := by
  intro k
  induction k with
  | zero => intro _ p hp; rw [h0] at hp; cases hp
  | succ k ih =>
    intro hk p hp
    have ho : aos[k]? = some aos[k] := List.getElem?_eq_getElem (by omega)
    have old : ¬ Chain aos Ds k → p ∈ (Ds k).ps → p.i < k + 1 ∧ p.id = base + p.i ∧ Made aos base Ds p.i p.b ∧ ¬ Laid aos Ds p.i (k + 1) := by
      intro hc hp
      obtain ⟨a1, a2, a3, a4⟩ := ih (by omega) p hp
      refine ⟨by omega, a2, a3, ?_⟩
      rintro ⟨c, o, h1, h2, h3⟩
      rcases Nat.lt_or_ge c k with h4 | h4
      · exact a4 ⟨c, o, h4, h2, h3⟩
      · rw [show c = k by omega] at h2; exact hc h2
    cases h.kind ho with
    | no hw e => rw [e] at hp; exact old (fun ⟨o, x, h1, h2, h3⟩ => by rw [ho] at h1; cases h1; rw [hw] at h3; cases h3) hp
    | q q v hw ho' hv e => rw [e] at hp; exact old (fun ⟨o, x, h1, h2, h3⟩ => by rw [ho] at h1; cases h1; rw [ho'] at h2; cases h2) hp
    | a a v b hw ho' hv e =>
      have hnc : ¬ Chain aos Ds k := fun ⟨o, x, h1, h2, h3⟩ => by rw [ho] at h1; cases h1; rw [ho'] at h2; cases h2
      rw [e] at hp
      rcases List.mem_cons.1 hp with rfl | hp
      · refine ⟨Nat.lt_succ_self _, rfl, ⟨_, a, v, ho, ho', hw, hv⟩, ?_⟩
        rintro ⟨c, o, h1, h2, h3, h4⟩
        have := hb c o _ h3 h4
        simp only at this
        omega
      · exact old hnc hp
    | x x v S hw ho' hl hv e =>
      rw [e] at hp
      obtain ⟨h1, h2⟩ := flush_fst hp
      obtain ⟨a1, a2, a3, a4⟩ := ih (by omega) p h1
      refine ⟨by omega, a2, a3, ?_⟩
      rintro ⟨c, o, h3, h4, h5, h6⟩
      rcases Nat.lt_or_ge c k with h7 | h7
      · exact a4 ⟨c, o, h7, h4, h5, h6⟩
      · rw [show c = k by omega, ho] at h5; cases h5; rw [h2] at h6; cases h6
end

section
variable {P : Program} {σ σ' σ0 : Env} {S S' S0 : St} {w w' w0 : World}

/-- a block of its own that the heap S does not hold -/
structure Stands (P : Program) (n0 : Nat) (σ : Env) (S : St) (w : World) (id : Nat) (b : AB) (L : Loc) : Prop where
  at_ : σ id = some L
  ge : n0 ≤ L.r
  lt : L.r < w.heap.size
  rep : BlkRep P σ w L b
  own : isOwn b
  sep : ∀ c bl M, S.h.get c = some bl → σ c = some M → M.r ≠ L.r

/-- memory grows by a block that is not in the heap yet -/
theorem Ext.grow (h : Ext P σ0 S0 w0 σ S w) {ob : Obj} {id e : Nat} (hid : σ id = none) (hlo : S0.nx ≤ id) (hhi : id < S.nx) (hw : w'.heap = w.heap.push ob) (ho : w'.os = w.os) (ht : w'.tape = w.tape) (hu : w'.output = w.output) :
    Ext P σ0 S0 w0 (upd σ id ⟨w.heap.size, 0, e⟩) S w' := by
  have hold : ∀ r, r < w.heap.size → w'.heap[r]? = w.heap[r]? := fun r hr => by rw [hw, Array.getElem?_push, if_neg (by omega)]
  have hsz : w'.heap.size = w.heap.size + 1 := by rw [hw]; simp
  have hne : ∀ b bl, S.h.get b = some bl → b ≠ id := fun b bl hb e => by
    obtain ⟨L, h1, _⟩ := h.rep.blk b bl hb
    rw [e, hid] at h1; cases h1
  refine ⟨⟨fun b bl hb => ?_, h.rep.lt, fun b hb => ?_, fun g hg => upd_mono hid _ _ (h.rep.glob g hg), ?_⟩, fun b hb => ?_, h.nx, fun r hr hn => ?_, fun r hr => ?_, by have := h.size; omega, ho.trans h.os, ht.trans h.tape, hu.trans h.output, h.ro⟩
  · obtain ⟨L, h1, h2, h3⟩ := h.rep.blk b bl hb
    exact ⟨L, upd_mono hid _ _ h1, by omega, h3.frame (upd_mono hid) (hold _ h2)⟩
  · rw [upd_other _ (by omega)]; exact h.rep.fresh b hb
  · intro b b' bl bl' L L' h1 h2 h3 h4 h5 h6
    rw [upd_other _ (hne _ _ h1)] at h5
    rw [upd_other _ (hne _ _ h2)] at h6
    exact h.rep.inj b b' bl bl' L L' h1 h2 h3 h4 h5 h6
  · rw [upd_other _ (by omega)]; exact h.low b hb
  · rw [hold r (Nat.lt_of_lt_of_le hr h.size)]; exact h.keep r hr hn
  · obtain ⟨b, bl, L, h1, h2, h3, rfl⟩ := hr
    rw [upd_other _ (hne _ _ h1)] at h3
    exact h.own _ ⟨b, bl, L, h1, h2, h3, rfl⟩

theorem Stands.grow {n0 : Nat} {id : Nat} {b : AB} {L : Loc} (h : Stands P n0 σ S w id b L) (hR : Rep P σ S w) {ob : Obj} {i e : Nat} (hi : σ i = none) (hw : w'.heap = w.heap.push ob) :
    Stands P n0 (upd σ i ⟨w.heap.size, 0, e⟩) S w' id b L where
  at_ := upd_mono hi _ _ h.at_
  ge := h.ge
  lt := by rw [hw]; simp; have := h.lt; omega
  rep := h.rep.frame (upd_mono hi) (by rw [hw, Array.getElem?_push, if_neg (by have := h.lt; omega)])
  own := h.own
  sep := fun c bl M h1 h2 => by
    refine h.sep c bl M h1 ?_
    rw [upd_other] at h2
    · exact h2
    · intro e
      obtain ⟨L', h3, _⟩ := hR.blk c bl h1
      rw [e, hi] at h3; cases h3

/-- some of the blocks that stand are laid into the heap -/
theorem Ext.lay (h : Ext P σ0 S0 w0 σ S w) {n0 : Nat} (hn0 : w0.heap.size ≤ n0) {m : Nat} {ps : List Pend} (hst : ∀ p ∈ ps, Nat.testBit m p.i = true → p.id < S.nx ∧ ∃ L, Stands P n0 σ S w p.id p.b L)
    (hd : ∀ p ∈ ps, ∀ q ∈ ps, Nat.testBit m p.i = true → Nat.testBit m q.i = true → p.id ≠ q.id → ∀ L L', σ p.id = some L → σ q.id = some L' → L.r ≠ L'.r) :
    Ext P σ0 S0 w0 σ ⟨(flush m ps S.h).2, S.nx⟩ w := by
  refine ⟨⟨fun b bl hb => ?_, fun b bl hb => ?_, h.rep.fresh, h.rep.glob, ?_⟩, h.low, h.nx, h.keep, fun r hr => ?_, h.size, h.os, h.tape, h.output, fun b cs hb => ?_⟩
  · rcases flush_snd hb with ⟨p, h1, h2, rfl, rfl⟩ | h1
    · obtain ⟨_, L, h3⟩ := hst p h1 h2
      exact ⟨L, h3.at_, h3.lt, h3.rep⟩
    · exact h.rep.blk b bl h1
  · rcases flush_snd hb with ⟨p, h1, h2, rfl, rfl⟩ | h1
    · exact (hst p h1 h2).1
    · exact h.rep.lt b bl h1
  · intro b b' bl bl' L L' hb hb' ho hne hL hL'
    rcases flush_snd hb with ⟨p, h1, h2, rfl, rfl⟩ | h1 <;> rcases flush_snd hb' with ⟨q, h1', h2', rfl, rfl⟩ | h1'
    · exact hd p h1 q h1' h2 h2' hne L L' hL hL'
    · obtain ⟨_, M, h3⟩ := hst p h1 h2
      have := h3.at_
      rw [hL] at this; cases this
      exact (h3.sep b' bl' L' h1' hL').symm
    · obtain ⟨_, M, h3⟩ := hst q h1' h2'
      have := h3.at_
      rw [hL'] at this; cases this
      exact h3.sep b bl L h1 hL
    · exact h.rep.inj b b' bl bl' L L' h1 h1' ho hne hL hL'
  · obtain ⟨b, bl, L, hb, ho, hL, rfl⟩ := hr
    rcases flush_snd hb with ⟨p, h1, h2, rfl, rfl⟩ | h1
    · obtain ⟨_, M, h3⟩ := hst p h1 h2
      have := h3.at_
      rw [hL] at this; cases this
      exact .inr (Nat.le_trans hn0 h3.ge)
    · exact h.own _ ⟨b, bl, L, h1, ho, hL, rfl⟩
  · rcases flush_snd hb with ⟨p, h1, h2, rfl, h3⟩ | h1
    · obtain ⟨_, M, h4⟩ := hst p h1 h2
      have := h4.own
      rw [h3] at this
      exact this.elim
    · exact h.ro b cs h1

/-- what stands keeps standing when a chain operation acts -/
theorem Stands.act {n0 : Nat} {id : Nat} {b : AB} {L : Loc} (h : Stands P n0 σ S w id b L) (hR : Rep P σ S w) (hE : Ext P σ S w σ' S' w') (hid : id < S.nx) : Stands P n0 σ' S' w' id b L := by
  have hno : ¬ Own σ S L.r := fun ⟨c, bl, M, h1, h2, h3, h4⟩ => h.sep c bl M h1 h3 h4
  refine ⟨by rw [hE.low id hid]; exact h.at_, h.ge, Nat.lt_of_lt_of_le h.lt hE.size, h.rep.frame (hE.mono hR) (hE.keep _ h.lt hno), h.own, ?_⟩
  intro c bl M h1 h2
  by_cases ho : isOwn bl
  · rcases hE.own M.r ⟨c, bl, M, h1, ho, h2, rfl⟩ with ⟨c', bl', M', a1, a2, a3, a4⟩ | h3
    · rw [← a4]; exact h.sep c' bl' M' a1 a3
    · have := h.lt; omega
  · cases bl with
    | ro cs =>
      have h3 := hE.ro c cs h1
      rw [hE.low c (hR.lt c _ h3)] at h2
      exact h.sep c _ M h3 h2
    | _ => exact absurd trivial ho
end
end Go.Ev
