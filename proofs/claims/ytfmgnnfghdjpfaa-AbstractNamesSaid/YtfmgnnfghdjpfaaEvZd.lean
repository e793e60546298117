import Derived.Test.YtfmgnnfghdjpfaaEvZc
namespace Go.Ev
variable {P : Program}

def unl : List Bool → Nat
  | [] => 0
  | true :: l => unl l
  | false :: l => unl l + 1
theorem unl_set : ∀ {l : List Bool} {k : Nat}, l[k]? = some false → unl (l.set k true) + 1 = unl l
  | [], k, h => by simp at h
  | b :: l, 0, h => by simp at h; subst h; rfl
  | b :: l, k + 1, h => by
    have := unl_set (l := l) (k := k) (by simpa using h)
    cases b <;> simp only [List.set_cons_succ, unl] <;> omega
theorem unl_zero : ∀ {l : List Bool}, unl l = 0 → ∀ k, k < l.length → l[k]? = some true
  | [], _, k, hk => by simp at hk
  | true :: l, h, 0, _ => rfl
  | true :: l, h, k + 1, hk => by simpa using unl_zero (l := l) h k (by simpa using hk)
  | false :: l, h, k, hk => by simp [unl] at h

section
variable {aos : List AO} {base : Nat} {call : CallF} {Ds : Nat → DS} {ops : Array Oper} {nt : Nat}

/-- what is known of a region -/
structure Reg (P : Program) (nt : Nat) (ops : Array Oper) (aos : List AO) (base : Nat) (call : CallF) (Ds : Nat → DS) : Prop where
  tr : Tr aos base call Ds
  len : aos.length = ops.size
  op : ∀ (j : Nat) (o : Oper), ops[j]? = some o → ∃ ao : AO, aos[j]? = some ao ∧ dstOk nt o.dst = true ∧ cGuard ops o.guard = some ao.grd ∧ ao.dst = o.dst ∧ (cOp P o.op = some ao.op ∨ ao.op = .x .bad)
  back : ∀ (j : Nat) (o : Oper), ops[j]? = some o → ∀ e ∈ o.after, Region.binds .any e = true → e.on < j
  bits : ∀ D : Nat → Prop, (∀ (j : Nat) (o : Oper), ops[j]? = some o → D j → ∀ e ∈ o.after, Region.binds .any e = true → D e.on) → ∀ (j : Nat) (o : Oper) (ao : AO), ops[j]? = some o → aos[j]? = some ao → (∀ e ∈ o.after, Region.binds .any e = true → D e.on) → ∀ i, Nat.testBit ao.mask i = true → D i
  touch : ∀ (i j : Nat) (a b : AO), i < j → aos[i]? = some a → aos[j]? = some b → (meets a.dst b.touch || meets b.dst a.touch) = true → Nat.testBit b.mask i = true
  hs0 : (Ds 0).hs = []
  ps0 : (Ds 0).ps = []
  loads : loadsOk (Ds 0).S.h (Ds aos.length).hs.reverse (Ds aos.length).ls = true

/-- the operations carried out so far are closed -/
def Closed (ops : Array Oper) (D : Nat → Prop) : Prop := ∀ (j : Nat) (o : Oper), ops[j]? = some o → D j → ∀ e ∈ o.after, Region.binds .any e = true → D e.on

structure Inv (P : Program) (aos : List AO) (base : Nat) (Ds : Nat → DS) (σ0 : Env) (S0 : St) (w0 : World) (D : Nat → Prop) (s : Nat) (σ : Env) (w : World) (Fh : Fr) (tmps : Array Value) : Prop where
  sle : s ≤ aos.length
  chain : ∀ c, Chain aos Ds c → (D c ↔ c < s)
  ext : Ext P σ0 S0 w0 σ (Ds s).S w
  nx : base + aos.length ≤ (Ds s).S.nx
  free : ∀ i, i < aos.length → ¬ D i → σ (base + i) = none
  pend : ∀ i b, Made aos base Ds i b → D i → ¬ Laid aos Ds i s → ∃ L, Stands P w0.heap.size σ (Ds s).S w (base + i) b L
  dist : ∀ i j b b', i ≠ j → Made aos base Ds i b → D i → ¬ Laid aos Ds i s → Made aos base Ds j b' → D j → ¬ Laid aos Ds j s → ∀ L L', σ (base + i) = some L → σ (base + j) = some L' → L.r ≠ L'.r
  frame : FrR P σ Fh tmps
  slots : ∀ t, ∃ i, i ≤ aos.length ∧ tmpV t Fh = tmpV t (Ds i).F ∧ ∀ (j : Nat) (o : AO), aos[j]? = some o → o.dst = some t → (D j ↔ j < i)

theorem Reg.mask (h : Reg P nt ops aos base call Ds) {D : Nat → Prop} (hD : Closed ops D) {j : Nat} {ao : AO} (hj : D j) (ha : aos[j]? = some ao) : ∀ i, Nat.testBit ao.mask i = true → D i := by
  have hlt : j < aos.length := (List.getElem?_eq_some_iff.1 ha).1
  have ho : ops[j]? = some (ops[j]'(by rw [← h.len]; exact hlt)) := Array.getElem?_eq_getElem _
  exact h.bits D hD j _ ao ho ha (hD j _ ho hj)

theorem Reg.maskLt (h : Reg P nt ops aos base call Ds) : ∀ (k : Nat) (o : AO) (i : Nat), aos[k]? = some o → Nat.testBit o.mask i = true → i < k := by
  intro k ao i ha hb
  have hlt : k < aos.length := (List.getElem?_eq_some_iff.1 ha).1
  have ho : ops[k]? = some (ops[k]'(by rw [← h.len]; exact hlt)) := Array.getElem?_eq_getElem _
  exact h.bits (fun i => i < k) (fun j o hj hlt e he hb => by have := h.back j o hj e he hb; exact Nat.lt_trans this hlt) k _ ao ho ha (fun e he hb => h.back k _ ho e he hb) i hb

/-- the slots that an operation touches stand as in the run -/
theorem Inv.agree {σ0 : Env} {S0 : St} {w0 : World} {D : Nat → Prop} {s : Nat} {σ : Env} {w : World} {Fh : Fr} {tmps : Array Value} (hg : Reg P nt ops aos base call Ds) (h : Inv P aos base Ds σ0 S0 w0 D s σ w Fh tmps) (hD : Closed ops D) {k : Nat} {ao : AO} (ha : aos[k]? = some ao) (hk : ¬ D k)
    (hm : ∀ i, Nat.testBit ao.mask i = true → D i) {t : Nat} (ht : t ∈ ao.touch) : tmpV t Fh = tmpV t (Ds k).F ∧ (∀ (j : Nat) (o : AO), aos[j]? = some o → o.dst = some t → (j < k → D j) ∧ (k ≤ j → ¬ D j)) := by
  have hkl : k < aos.length := (List.getElem?_eq_some_iff.1 ha).1
  have hw : ∀ (j : Nat) (o : AO), aos[j]? = some o → o.dst = some t → (j < k → D j) ∧ (k ≤ j → ¬ D j) := by
    intro j o hj hd
    refine ⟨fun hlt => ?_, fun hle => ?_⟩
    · exact hm j (hg.touch j k o ao hlt hj ha (by rw [Bool.or_eq_true]; exact .inl (meets_of hd ht)))
    · rcases Nat.lt_or_ge k j with h1 | h1
      · intro hDj
        exact hk (hg.mask hD hDj hj k (hg.touch k j ao o h1 ha hj (by rw [Bool.or_eq_true]; exact .inr (meets_of hd ht))))
      · rw [show j = k by omega]; exact hk
  refine ⟨?_, hw⟩
  obtain ⟨i, hi, h1, h2⟩ := h.slots t
  rw [h1]
  rcases Nat.le_total i k with h3 | h3
  · refine (hg.tr.slot_keep h3 (by omega) ?_).symm
    intro j o h4 h5 h6 h7
    have := (h2 j o h6 h7).1 ((hw j o h6 h7).1 h5)
    omega
  · refine hg.tr.slot_keep h3 hi ?_
    intro j o h4 h5 h6 h7
    exact (hw j o h6 h7).2 h4 ((h2 j o h6 h7).2 h5)

def With (D : Nat → Prop) (k : Nat) : Nat → Prop := fun i => D i ∨ i = k

theorem Inv.slots' {σ0 : Env} {S0 : St} {w0 : World} {D : Nat → Prop} {s : Nat} {σ : Env} {w : World} {Fh : Fr} {tmps : Array Value} (hg : Reg P nt ops aos base call Ds) (h : Inv P aos base Ds σ0 S0 w0 D s σ w Fh tmps) (hD : Closed ops D) {k : Nat} {ao : AO} (ha : aos[k]? = some ao) (hk : ¬ D k)
    (hm : ∀ i, Nat.testBit ao.mask i = true → D i) {v : AV} (hv : ∀ d, ao.dst = some d → tmpV d (Ds (k + 1)).F = v) :
    ∀ t, ∃ i, i ≤ aos.length ∧ tmpV t (putF ao.dst Fh v) = tmpV t (Ds i).F ∧ ∀ (j : Nat) (o : AO), aos[j]? = some o → o.dst = some t → (With D k j ↔ j < i) := by
  intro t
  have hkl : k < aos.length := (List.getElem?_eq_some_iff.1 ha).1
  by_cases hd : ao.dst = some t
  · refine ⟨k + 1, by omega, ?_, ?_⟩
    · rw [hd, putF_same, hv t hd]
    · intro j o hj hjd
      obtain ⟨h1, h2⟩ := (h.agree hg hD ha hk hm (t := t) (by simp [AO.touch, hd])).2 j o hj hjd
      constructor
      · rintro (h3 | h3)
        · rcases Nat.lt_or_ge j k with h4 | h4
          · omega
          · exact absurd h3 (h2 h4)
        · omega
      · intro h3
        rcases Nat.lt_or_ge j k with h4 | h4
        · exact .inl (h1 h4)
        · exact .inr (by omega)
  · obtain ⟨i, hi, h1, h2⟩ := h.slots t
    refine ⟨i, hi, by rw [putF_other hd]; exact h1, fun j o hj hjd => ?_⟩
    have hne : j ≠ k := fun e => by rw [e, ha] at hj; cases hj; exact hd hjd
    constructor
    · rintro (h3 | h3)
      · exact (h2 j o hj hjd).1 h3
      · exact absurd h3 hne
    · exact fun h3 => .inl ((h2 j o hj hjd).2 h3)

theorem not_made {k : Nat} {ao : AO} (ha : aos[k]? = some ao) (h : ∀ a, ao.op = .a a → wants ao.grd (Ds k).F = false) : ∀ b, ¬ Made aos base Ds k b := by
  rintro b ⟨o, a, v, h1, h2, h3, _⟩
  rw [ha] at h1; cases h1
  rw [h a h2] at h3; cases h3
theorem not_chain {k : Nat} {ao : AO} (ha : aos[k]? = some ao) (h : ∀ x, ao.op = .x x → wants ao.grd (Ds k).F = false) : ¬ Chain aos Ds k := by
  rintro ⟨o, x, h1, h2, h3⟩
  rw [ha] at h1; cases h1
  rw [h x h2] at h3; cases h3

/-- an operation that leaves the world as it is -/
theorem Inv.quiet {σ0 : Env} {S0 : St} {w0 : World} {D : Nat → Prop} {s : Nat} {σ : Env} {w : World} {Fh : Fr} {a : Act} (hg : Reg P nt ops aos base call Ds) (h : Inv P aos base Ds σ0 S0 w0 D s σ w Fh a.tmps) (hD : Closed ops D) {k : Nat} {ao : AO} (ha : aos[k]? = some ao) (hk : ¬ D k)
    (hm : ∀ i, Nat.testBit ao.mask i = true → D i) (hnm : ∀ b, ¬ Made aos base Ds k b) (hnc : ¬ Chain aos Ds k) {v : AV} {V : Value} (hv : ∀ d, ao.dst = some d → tmpV d (Ds (k + 1)).F = v) (hd : dstOk a.tmps.size ao.dst = true) (hV : Rv P σ v V) :
    Inv P aos base Ds σ0 S0 w0 (With D k) s σ w (putF ao.dst Fh v) (a.put ao.dst V).tmps where
  sle := h.sle
  chain := fun c hc => by
    rw [← h.chain c hc]
    exact ⟨fun h1 => h1.elim id (fun e => by subst e; exact absurd hc hnc), .inl⟩
  ext := h.ext
  nx := h.nx
  free := fun i hi hn => h.free i hi (fun h1 => hn (.inl h1))
  pend := fun i b hM hDi hL => h.pend i b hM (hDi.elim id (fun e => by subst e; exact absurd hM (hnm b))) hL
  dist := fun i j b b' hne hM hDi hL hM' hDj hL' => h.dist i j b b' hne hM (hDi.elim id (fun e => by subst e; exact absurd hM (hnm b))) hL hM' (hDj.elim id (fun e => by subst e; exact absurd hM' (hnm b'))) hL'
  frame := h.frame.put hd hV
  slots := h.slots' hg hD ha hk hm hv

/-- an allocation -/
theorem Inv.alloc {σ0 : Env} {S0 : St} {w0 w' : World} {D : Nat → Prop} {s : Nat} {σ : Env} {w : World} {Fh : Fr} {a : Act} (hg : Reg P nt ops aos base call Ds) (hb0 : S0.nx ≤ base) (h : Inv P aos base Ds σ0 S0 w0 D s σ w Fh a.tmps) (hD : Closed ops D) {k : Nat} {ao : AO} (ha : aos[k]? = some ao) (hk : ¬ D k)
    (hm : ∀ i, Nat.testBit ao.mask i = true → D i) (hnc : ¬ Chain aos Ds k) {v : AV} {bl : AB} {V : Value} (hmk : ∀ b, Made aos base Ds k b → b = bl) (hv : ∀ d, ao.dst = some d → tmpV d (Ds (k + 1)).F = v) (hd : dstOk a.tmps.size ao.dst = true) (hM : MadeR P σ w (base + k) v bl V w') :
    ∃ σ', Inv P aos base Ds σ0 S0 w0 (With D k) s σ' w' (putF ao.dst Fh v) (a.put ao.dst V).tmps := by
  obtain ⟨ob, e, m1, m2, m3, m4, m5, m6, m7⟩ := hM
  have hkl : k < aos.length := (List.getElem?_eq_some_iff.1 ha).1
  have hid := h.free k hkl hk
  have hR := h.ext.rep
  have hnx := h.nx
  have hmono := upd_mono (L := ⟨w.heap.size, 0, e⟩) hid
  have hkk : ∀ i b, Made aos base Ds i b → With D k i → i ≠ k → D i := fun i b _ h1 h2 => h1.elim id (fun e => absurd e h2)
  refine ⟨upd σ (base + k) ⟨w.heap.size, 0, e⟩, ⟨h.sle, fun c hc => ?_, h.ext.grow hid (by omega) (by omega) m1 m2 m3 m4, h.nx, fun i hi hn => ?_, fun i b hMi hDi hL => ?_, ?_, ?_, h.slots' hg hD ha hk hm hv⟩⟩
  · rw [← h.chain c hc]
    exact ⟨fun h1 => h1.elim id (fun e => by subst e; exact absurd hc hnc), .inl⟩
  · rw [upd_other _ (fun e => hn (.inr (by omega)))]
    exact h.free i hi (fun h1 => hn (.inl h1))
  · by_cases hik : i = k
    · subst hik
      have := hmk b hMi; subst this
      refine ⟨_, upd_same _ _, h.ext.size, ?_, m5, m6, ?_⟩
      · rw [m1]; simp
      · intro c bl' M h1 h2
        obtain ⟨L', h3, h4, _⟩ := hR.blk c bl' h1
        rw [hmono _ _ h3] at h2; cases h2
        simp only; omega
    · obtain ⟨L, h1⟩ := h.pend i b hMi (hkk i b hMi hDi hik) hL
      exact ⟨L, h1.grow hR hid m1⟩
  · intro i j b b' hne hMi hDi hLi hMj hDj hLj L L' hL hL'
    by_cases hik : i = k
    · subst hik
      rw [upd_same] at hL; cases hL
      obtain ⟨M, h1⟩ := h.pend j b' hMj (hkk j b' hMj hDj (Ne.symm hne)) hLj
      rw [hmono _ _ h1.at_] at hL'; cases hL'
      have := h1.lt
      simp only; omega
    · by_cases hjk : j = k
      · subst hjk
        rw [upd_same] at hL'; cases hL'
        obtain ⟨M, h1⟩ := h.pend i b hMi (hkk i b hMi hDi hik) hLi
        rw [hmono _ _ h1.at_] at hL; cases hL
        have := h1.lt
        simp only; omega
      · rw [upd_other _ (by omega)] at hL hL'
        exact h.dist i j b b' hne hMi (hkk i b hMi hDi hik) hLi hMj (hkk j b' hMj hDj hjk) hLj L L' hL hL'
  · exact (h.frame.mono hmono).put hd m7

/-- where the chain stands: as in the run before k -/
theorem Inv.same {σ0 : Env} {S0 : St} {w0 : World} {D : Nat → Prop} {s : Nat} {σ : Env} {w : World} {Fh : Fr} {tmps : Array Value} (h : Inv P aos base Ds σ0 S0 w0 D s σ w Fh tmps) (hg : Reg P nt ops aos base call Ds) {k : Nat} (hk : k ≤ aos.length) (hc : ∀ c, Chain aos Ds c → (c < k ↔ D c)) :
    (Ds k).S = (Ds s).S ∧ ∀ i, Laid aos Ds i k ↔ Laid aos Ds i s := by
  have hck : ∀ c, Chain aos Ds c → (c < k ↔ c < s) := fun c h1 => (hc c h1).trans (h.chain c h1)
  constructor
  · rcases Nat.le_total k s with h1 | h1
    · exact (hg.tr.heap_keep h1 h.sle (fun j h2 h3 h4 => by have := (hck j h4).2 h3; omega)).1.symm
    · exact (hg.tr.heap_keep h1 hk (fun j h2 h3 h4 => by have := (hck j h4).1 h3; omega)).1
  · intro i
    constructor
    · rintro ⟨c, o, h1, h2, h3⟩; exact ⟨c, o, (hck c h2).1 h1, h2, h3⟩
    · rintro ⟨c, o, h1, h2, h3⟩; exact ⟨c, o, (hck c h2).2 h1, h2, h3⟩

/-- the state in front of a chain operation: what must be laid is laid -/
theorem Inv.laid {σ0 : Env} {S0 : St} {w0 : World} {D : Nat → Prop} {s : Nat} {σ : Env} {w : World} {Fh : Fr} {tmps : Array Value} (h : Inv P aos base Ds σ0 S0 w0 D s σ w Fh tmps) (hg : Reg P nt ops aos base call Ds) {k m : Nat} (hk : k ≤ aos.length) (hc : ∀ c, Chain aos Ds c → (c < k ↔ D c)) (hm : ∀ i, i < k → Nat.testBit m i = true → D i) :
    Ext P σ0 S0 w0 σ ⟨(flush m (Ds k).ps (Ds k).S.h).2, (Ds k).S.nx⟩ w ∧
    ∀ i b L, Made aos base Ds i b → D i → ¬ Laid aos Ds i s → Nat.testBit m i = false → Stands P w0.heap.size σ (Ds s).S w (base + i) b L → Stands P w0.heap.size σ ⟨(flush m (Ds k).ps (Ds k).S.h).2, (Ds k).S.nx⟩ w (base + i) b L := by
  obtain ⟨e1, e2⟩ := h.same hg hk hc
  rw [e1]
  have hp := hg.tr.pend hg.ps0 hg.maskLt k hk
  have hst : ∀ p ∈ (Ds k).ps, Nat.testBit m p.i = true → D p.i ∧ ¬ Laid aos Ds p.i s ∧ p.i < aos.length := fun p hpm hb => by
    obtain ⟨a1, a2, a3, a4⟩ := hp p hpm
    exact ⟨hm _ a1 hb, fun h1 => a4 ((e2 _).2 h1), by omega⟩
  have hnx := h.nx
  constructor
  · refine h.ext.lay (Nat.le_refl _) (fun p hpm hb => ?_) (fun p hpm q hqm hb hb' hne L L' hL hL' => ?_)
    · obtain ⟨a1, a2, a3, a4⟩ := hp p hpm
      obtain ⟨b1, b2, b3⟩ := hst p hpm hb
      rw [a2]
      exact ⟨by omega, h.pend _ _ a3 b1 b2⟩
    · obtain ⟨a1, a2, a3, a4⟩ := hp p hpm
      obtain ⟨b1, b2, b3⟩ := hst p hpm hb
      obtain ⟨a1', a2', a3', a4'⟩ := hp q hqm
      obtain ⟨b1', b2', b3'⟩ := hst q hqm hb'
      rw [a2] at hL hne
      rw [a2'] at hL' hne
      exact h.dist p.i q.i _ _ (fun e => hne (by rw [e])) a3 b1 b2 a3' b1' b2' L L' hL hL'
  · intro i b L hM hDi hLi hbit hS
    refine ⟨hS.at_, hS.ge, hS.lt, hS.rep, hS.own, ?_⟩
    intro c bl M h1 h2
    rcases flush_snd h1 with ⟨p, hpm, hb, rfl, rfl⟩ | h1
    · obtain ⟨a1, a2, a3, a4⟩ := hp p hpm
      obtain ⟨b1, b2, b3⟩ := hst p hpm hb
      rw [a2] at h2
      refine h.dist p.i i _ _ (fun e => ?_) a3 b1 b2 hM hDi hLi M L h2 hS.at_
      rw [e, hbit] at hb; cases hb
    · exact hS.sep c bl M h1 h2

/-- a chain operation -/
theorem Inv.act {σ0 : Env} {S0 : St} {w0 w' : World} {D : Nat → Prop} {s : Nat} {σ σ' : Env} {w : World} {Fh : Fr} {a : Act} (hg : Reg P nt ops aos base call Ds) (h : Inv P aos base Ds σ0 S0 w0 D s σ w Fh a.tmps) (hD : Closed ops D) {k : Nat} {ao : AO} (ha : aos[k]? = some ao) (hk : ¬ D k)
    (hm : ∀ i, Nat.testBit ao.mask i = true → D i) (hch : Chain aos Ds k) (hc : ∀ c, Chain aos Ds c → (c < k ↔ D c)) {v : AV} {V : Value} (hv : ∀ d, ao.dst = some d → tmpV d (Ds (k + 1)).F = v) (hd : dstOk a.tmps.size ao.dst = true)
    (hE : Ext P σ ⟨(flush ao.mask (Ds k).ps (Ds k).S.h).2, (Ds k).S.nx⟩ w σ' (Ds (k + 1)).S w') (hV : Rv P σ' v V) :
    Inv P aos base Ds σ0 S0 w0 (With D k) (k + 1) σ' w' (putF ao.dst Fh v) (a.put ao.dst V).tmps := by
  have hkl : k < aos.length := (List.getElem?_eq_some_iff.1 ha).1
  obtain ⟨e1, e2⟩ := h.same hg (by omega) hc
  obtain ⟨hlay, hstand⟩ := h.laid hg (m := ao.mask) (show k ≤ aos.length by omega) hc (fun i _ hb => hm i hb)
  have hnx := h.nx
  have hnm : ∀ b, ¬ Made aos base Ds k b := not_made ha (fun x hx => by
    obtain ⟨o, y, h1, h2, h3⟩ := hch
    rw [ha] at h1; cases h1; rw [hx] at h2; cases h2)
  have hDi : ∀ i b, Made aos base Ds i b → With D k i → D i := fun i b hM h1 => h1.elim id (fun e => by subst e; exact absurd hM (hnm b))
  have hLd : ∀ i, ¬ Laid aos Ds i (k + 1) → ¬ Laid aos Ds i s ∧ Nat.testBit ao.mask i = false := fun i hn => by
    refine ⟨fun h1 => ?_, ?_⟩
    · obtain ⟨c, o, h2, h3⟩ := (e2 i).2 h1
      exact hn ⟨c, o, by omega, h3⟩
    · cases hb : Nat.testBit ao.mask i with
      | false => rfl
      | true => exact absurd ⟨k, ao, Nat.lt_succ_self _, hch, ha, hb⟩ hn
  have hS' : (Ds k).S.nx = (Ds s).S.nx := by rw [e1]
  have hlow : ∀ i, i < aos.length → σ' (base + i) = σ (base + i) := fun i hi => hE.low _ (by simp only; omega)
  have hlt : ∀ i b, Made aos base Ds i b → i < aos.length := fun i b ⟨o, _, _, h1, _⟩ => (List.getElem?_eq_some_iff.1 h1).1
  refine ⟨by omega, fun c hc' => ?_, hlay.trans hE, ?_, fun i hi hn => ?_, fun i b hM hw hL => ?_, fun i j b b' hne hM hw hL hM' hw' hL' L L' hLi hLj => ?_, (h.frame.mono (hE.mono hlay.rep)).put hd hV, h.slots' hg hD ha hk hm hv⟩
  · constructor
    · rintro (h1 | h1)
      · have := (hc c hc').2 h1; omega
      · omega
    · intro h1
      rcases Nat.lt_or_ge c k with h2 | h2
      · exact .inl ((hc c hc').1 h2)
      · exact .inr (by omega)
  · have := hE.nx
    simp only at this
    omega
  · rw [hlow i hi]
    exact h.free i hi (fun h1 => hn (.inl h1))
  · obtain ⟨h1, h2⟩ := hLd i hL
    obtain ⟨L, h3⟩ := h.pend i b hM (hDi i b hM hw) h1
    have hli := hlt i b hM
    exact ⟨L, (hstand i b L hM (hDi i b hM hw) h1 h2 h3).act hlay.rep hE (by simp only; omega)⟩
  · rw [hlow i (hlt i b hM)] at hLi
    rw [hlow j (hlt j b' hM')] at hLj
    exact h.dist i j b b' hne hM (hDi i b hM hw) (hLd i hL).1 hM' (hDi j b' hM' hw') (hLd j hL').1 L L' hLi hLj
end
end Go.Ev
