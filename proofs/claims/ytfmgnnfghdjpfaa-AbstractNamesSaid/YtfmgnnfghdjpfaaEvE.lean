import Derived.Test.YtfmgnnfghdjpfaaEvD
import Derived.Calls
namespace Go.Ev
variable (P : Program)

/-! ## Frames, blocks, heaps -/
/-- the frame's slots -/
structure FrR (σ : Env) (F : Fr) (tmps : Array Value) : Prop where
  get : ∀ t, Rv P σ (tmpV t F) (tmps.getD t undef)

def lstOf : LSt → LoopState
  | .ready => .ready
  | .busy => .busy
  | .done => .done
  | .exhausted => .exhausted

def codeOf : Out → Option Code
  | .ret => some .ret
  | .exit id => some (.exit id)
  | .normal => none

def MapR (σ : Env) : List (AV × AV) → List MapEntry → Prop
  | [], es => es = []
  | (k, v) :: m, es => ∃ e es', es = e :: es' ∧ Rv P σ k e.key ∧ Rv P σ v e.val ∧ MapR σ m es'

def BlkRep (σ : Env) (w : World) (L : Loc) : AB → Prop
  | .cells cs o s => ∃ Cs, Rvs P σ cs Cs ∧ (∀ u ∈ Cs, u.oneCell' = true) ∧ w.rangeAt L.r L.d Cs ∧ w.there L.r L.d (Cs.length + if o = true then L.e * s else 0)
  | .ro cs => ∃ Cs, Rvs P σ cs Cs ∧ (∀ u ∈ Cs, u.oneCell' = true) ∧ w.rangeAt L.r L.d Cs
  | .map es => ∃ ms clock, w.heap[L.r]? = some (.map ms clock) ∧ MapR P σ es ms.toList
  | .loop st pend fr ps as bd => ∃ lp : Loop, w.heap[L.r]? = some (.loop lp) ∧ lp.state = lstOf st ∧ lp.pending = pend.bind codeOf ∧ FrR P σ fr lp.tmps ∧
      lp.params.toList = ps ∧ cCode P lp.tmps.size lp.assign = some as ∧ cCode P lp.tmps.size lp.body = some bd ∧ (∀ p ∈ ps, p < lp.tmps.size)
  | .dfd => w.heap[L.r]? = some (.deferred (some []))

def isOwn : AB → Prop
  | .ro _ => False
  | _ => True

structure Rep (σ : Env) (S : St) (w : World) : Prop where
  blk : ∀ b bl, S.h.get b = some bl → ∃ L, σ b = some L ∧ L.r < w.heap.size ∧ BlkRep P σ w L bl
  lt : ∀ b bl, S.h.get b = some bl → b < S.nx
  fresh : ∀ b, S.nx ≤ b → σ b = none
  glob : ∀ g, g < P.globals.size → σ g = some ⟨g, 0, 0⟩
  inj : ∀ b b' bl bl' L L', S.h.get b = some bl → S.h.get b' = some bl' → isOwn bl → b ≠ b' → σ b = some L → σ b' = some L' → L.r ≠ L'.r

/-- the blocks that may be written -/
def Own (σ : Env) (S : St) (r : Nat) : Prop := ∃ b bl L, S.h.get b = some bl ∧ isOwn bl ∧ σ b = some L ∧ L.r = r

structure Ext (σ : Env) (S : St) (w : World) (σ' : Env) (S' : St) (w' : World) : Prop where
  rep : Rep P σ' S' w'
  low : ∀ b, b < S.nx → σ' b = σ b
  nx : S.nx ≤ S'.nx
  keep : ∀ r, r < w.heap.size → ¬ Own σ S r → w'.heap[r]? = w.heap[r]?
  own : ∀ r, Own σ' S' r → Own σ S r ∨ w.heap.size ≤ r
  size : w.heap.size ≤ w'.heap.size
  os : w'.os = w.os
  tape : w'.tape = w.tape
  output : w'.output = w.output
  ro : ∀ b cs, S'.h.get b = some (.ro cs) → S.h.get b = some (.ro cs)

section
variable {P} {σ σ' : Env} {S S' : St} {w w' : World}

theorem Rep.below (h : Rep P σ S w) {b : Nat} {L : Loc} (hb : σ b = some L) : b < S.nx := by
  rcases Nat.lt_or_ge b S.nx with hl | hl
  · exact hl
  · rw [h.fresh b hl] at hb; cases hb

theorem Ext.mono (h : Ext P σ S w σ' S' w') (hr : Rep P σ S w) : ∀ b L, σ b = some L → σ' b = some L := fun b L hb => by
  rw [h.low b (hr.below hb)]; exact hb

theorem Ext.refl (h : Rep P σ S w) : Ext P σ S w σ S w :=
  ⟨h, fun _ _ => rfl, Nat.le_refl _, fun _ _ _ => rfl, fun _ ho => .inl ho, Nat.le_refl _, rfl, rfl, rfl, fun _ _ h => h⟩

theorem Ext.trans {σ'' : Env} {S'' : St} {w'' : World} (h : Ext P σ S w σ' S' w') (h' : Ext P σ' S' w' σ'' S'' w'') : Ext P σ S w σ'' S'' w'' where
  rep := h'.rep
  low := fun b hb => (h'.low b (Nat.lt_of_lt_of_le hb h.nx)).trans (h.low b hb)
  nx := Nat.le_trans h.nx h'.nx
  keep := fun r hr ho => by
    have h1 := h.keep r hr ho
    rw [h'.keep r (Nat.lt_of_lt_of_le hr h.size) (fun ho' => by rcases h.own r ho' with h2 | h2; exact ho h2; omega)]
    exact h1
  own := fun r ho => by
    rcases h'.own r ho with h1 | h1
    · exact h.own r h1
    · exact .inr (Nat.le_trans h.size h1)
  size := Nat.le_trans h.size h'.size
  os := h'.os.trans h.os
  tape := h'.tape.trans h.tape
  output := h'.output.trans h.output
  ro := fun b cs hb => h.ro b cs (h'.ro b cs hb)

theorem cell_of_heap {r : Nat} (h : w'.heap[r]? = w.heap[r]?) (o : Nat) : w'.cell? ⟨r, o, none⟩ = w.cell? ⟨r, o, none⟩ := by
  simp only [World.cell?, h]
theorem frozen_of_heap {r : Nat} (h : w'.heap[r]? = w.heap[r]?) (o : Nat) : w'.frozen? ⟨r, o, none⟩ = w.frozen? ⟨r, o, none⟩ := by
  simp only [World.frozen?, h]

theorem FrR.mono {F : Fr} {tmps : Array Value} (hs : ∀ b L, σ b = some L → σ' b = some L) (h : FrR P σ F tmps) : FrR P σ' F tmps := ⟨fun t => (h.get t).mono hs⟩
theorem MapR.mono (hs : ∀ b L, σ b = some L → σ' b = some L) : ∀ {m : List (AV × AV)} {es : List MapEntry}, MapR P σ m es → MapR P σ' m es
  | [], es, h => h
  | (k, v) :: m, es, h => by
    obtain ⟨e, es', h1, h2, h3, h4⟩ := h
    exact ⟨e, es', h1, h2.mono hs, h3.mono hs, h4.mono hs⟩

/-- what stands in a block depends on that block alone -/
theorem BlkRep.frame {L : Loc} {bl : AB} (hs : ∀ b L, σ b = some L → σ' b = some L) (hh : w'.heap[L.r]? = w.heap[L.r]?) (h : BlkRep P σ w L bl) : BlkRep P σ' w' L bl := by
  cases bl with
  | cells cs o s =>
    obtain ⟨Cs, h1, h2, h3, h4⟩ := h
    exact ⟨Cs, h1.mono hs, h2, fun j v hv => by rw [cell_of_heap hh]; exact h3 j v hv, fun j hj => by rw [cell_of_heap hh, frozen_of_heap hh]; exact h4 j hj⟩
  | ro cs =>
    obtain ⟨Cs, h1, h2, h3⟩ := h
    exact ⟨Cs, h1.mono hs, h2, fun j v hv => by rw [cell_of_heap hh]; exact h3 j v hv⟩
  | map es =>
    obtain ⟨ms, c, h1, h2⟩ := h
    exact ⟨ms, c, by rw [hh]; exact h1, h2.mono hs⟩
  | loop st pend fr ps as bd =>
    obtain ⟨lp, h1, h2, h3, h4, h5⟩ := h
    exact ⟨lp, by rw [hh]; exact h1, h2, h3, h4.mono hs, h5⟩
  | dfd => exact hh.trans h

/-- the heap stands: a draw -/
theorem Ext.heap (h : Rep P σ S w) (hh : w'.heap = w.heap) (ho : w'.os = w.os) (ht : w'.tape = w.tape) (hu : w'.output = w.output) : Ext P σ S w σ S w' where
  rep := ⟨fun b bl hb => by
    obtain ⟨L, h1, h2, h3⟩ := h.blk b bl hb
    exact ⟨L, h1, by rw [hh]; exact h2, h3.frame (fun _ _ x => x) (by rw [hh])⟩, h.lt, h.fresh, h.glob, h.inj⟩
  low := fun _ _ => rfl
  nx := Nat.le_refl _
  keep := fun r _ _ => by rw [hh]
  own := fun _ ho => .inl ho
  size := by rw [hh]; exact Nat.le_refl _
  os := ho
  tape := ht
  output := hu
  ro := fun _ _ hb => hb

/-- one name more -/
def upd (σ : Env) (b : Nat) (L : Loc) : Env := fun c => if c = b then some L else σ c
theorem upd_same (b : Nat) (L : Loc) : upd σ b L b = some L := by simp [upd]
theorem upd_other {b c : Nat} (L : Loc) (h : c ≠ b) : upd σ b L c = σ c := by simp [upd, h]
theorem upd_mono {b : Nat} {L : Loc} (hb : σ b = none) : ∀ c M, σ c = some M → upd σ b L c = some M := fun c M hc => by
  rw [upd_other L (fun e => by subst e; rw [hb] at hc; cases hc)]; exact hc

/-- a new block at the next name, in new memory -/
theorem Ext.alloc (h : Rep P σ S w) {ob : Obj} {bl : AB} {e : Nat} (hw : w'.heap = w.heap.push ob) (ho : w'.os = w.os) (ht : w'.tape = w.tape) (hu : w'.output = w.output)
    (hb : BlkRep P (upd σ S.nx ⟨w.heap.size, 0, e⟩) w' ⟨w.heap.size, 0, e⟩ bl) (hr : isOwn bl) :
    Ext P σ S w (upd σ S.nx ⟨w.heap.size, 0, e⟩) ⟨S.h.set S.nx (some bl), Nat.succ S.nx⟩ w' := by
  have hold : ∀ r, r < w.heap.size → w'.heap[r]? = w.heap[r]? := fun r hr => by rw [hw, Array.getElem?_push, if_neg (by omega)]
  have hsz : w'.heap.size = w.heap.size + 1 := by rw [hw]; simp
  have hf := h.fresh S.nx (Nat.le_refl _)
  refine ⟨⟨fun b bl' hb' => ?_, fun b bl' hb' => ?_, fun b hb' => ?_, fun g hg => upd_mono hf _ _ (h.glob g hg), ?_⟩, fun b hb' => upd_other _ (by omega), Nat.le_succ _, fun r hr _ => hold r hr, fun r hr => ?_, by omega, ho, ht, hu, fun b cs hb' => ?_⟩
  · rw [T.get_set] at hb'
    split at hb'
    · rename_i e; subst e; cases hb'
      exact ⟨_, upd_same _ _, by simp only; omega, hb⟩
    · rename_i hne
      obtain ⟨L, h1, h2, h3⟩ := h.blk b bl' hb'
      exact ⟨L, upd_mono hf _ _ h1, by omega, h3.frame (upd_mono hf) (hold _ h2)⟩
  · rw [T.get_set] at hb'
    split at hb'
    · rename_i e; subst e; exact Nat.lt_succ_self _
    · exact Nat.lt_succ_of_lt (h.lt b bl' hb')
  · have : b ≠ S.nx := by simp only at hb'; omega
    rw [upd_other _ this]
    exact h.fresh b (by simp only at hb'; omega)
  · intro b b' bl1 bl2 L L' hb1 hb2 ho1 hne hL hL'
    simp only at hb1 hb2
    rw [T.get_set] at hb1 hb2
    split at hb1
    · rename_i e; subst e
      rw [if_neg (Ne.symm hne)] at hb2
      rw [upd_same] at hL; cases hL
      rw [upd_other _ (Ne.symm hne)] at hL'
      obtain ⟨M, h1, h2, _⟩ := h.blk b' bl2 hb2
      rw [h1] at hL'; cases hL'
      simp only; omega
    · rename_i hne1
      rw [upd_other _ hne1] at hL
      obtain ⟨M, h1, h2, _⟩ := h.blk b bl1 hb1
      rw [h1] at hL; cases hL
      split at hb2
      · rename_i e; subst e
        rw [upd_same] at hL'; cases hL'
        simp only; omega
      · rename_i hne2
        rw [upd_other _ hne2] at hL'
        exact h.inj b b' bl1 bl2 _ _ hb1 hb2 ho1 hne h1 hL'
  · obtain ⟨b, bl', L, h1, h2, h3, rfl⟩ := hr
    simp only at h1
    rw [T.get_set] at h1
    split at h1
    · rename_i e; subst e; rw [upd_same] at h3; cases h3; exact .inr (Nat.le_refl _)
    · rename_i hne; rw [upd_other _ hne] at h3; exact .inl ⟨b, bl', L, h1, h2, h3, rfl⟩
  · simp only at hb'
    rw [T.get_set] at hb'
    split at hb'
    · cases hb'; exact hr.elim
    · exact hb'

/-- a block is written -/
theorem Ext.write (h : Rep P σ S w) {b : Nat} {bl bl' : AB} {L : Loc} (hb : S.h.get b = some bl) (hown : isOwn bl) (hown' : isOwn bl') (hL : σ b = some L)
    (hh : ∀ r, r ≠ L.r → w'.heap[r]? = w.heap[r]?) (hsz : w'.heap.size = w.heap.size) (ho : w'.os = w.os) (ht : w'.tape = w.tape) (hu : w'.output = w.output)
    (hr : BlkRep P σ w' L bl') : Ext P σ S w σ ⟨S.h.set b (some bl'), S.nx⟩ w' := by
  refine ⟨⟨fun c bl1 hc => ?_, fun c bl1 hc => ?_, h.fresh, h.glob, ?_⟩, fun _ _ => rfl, Nat.le_refl _, fun r _ hr' => hh r (fun e => hr' ⟨b, bl, L, hb, hown, hL, e.symm⟩), fun r hr' => ?_, by omega, ho, ht, hu, fun c cs hc => ?_⟩
  · simp only at hc
    rw [T.get_set] at hc
    obtain ⟨M, h1, h2, _⟩ := h.blk b bl hb
    rw [hL] at h1; cases h1
    split at hc
    · rename_i e; subst e; cases hc
      exact ⟨L, hL, by omega, hr⟩
    · rename_i hne
      obtain ⟨M, h1, h3, h4⟩ := h.blk c bl1 hc
      exact ⟨M, h1, by omega, h4.frame (fun _ _ x => x) (hh _ (Ne.symm (h.inj b c bl bl1 L M hb hc hown (Ne.symm hne) hL h1)))⟩
  · simp only at hc
    rw [T.get_set] at hc
    split at hc
    · rename_i e; subst e; exact h.lt c bl hb
    · exact h.lt c bl1 hc
  · intro c c' bl1 bl2 L1 L2 h1 h2 ho1 hne hL1 hL2
    simp only at h1 h2
    rw [T.get_set] at h1 h2
    split at h1
    · rename_i e; subst e
      rw [if_neg (Ne.symm hne)] at h2
      exact h.inj c c' bl bl2 _ _ hb h2 hown hne hL1 hL2
    · split at h2
      · rename_i e; subst e
        rw [hL] at hL2; cases hL2
        exact (h.inj c' c bl bl1 _ _ hb h1 hown (Ne.symm hne) hL hL1).symm
      · exact h.inj c c' bl1 bl2 _ _ h1 h2 ho1 hne hL1 hL2
  · obtain ⟨c, bl1, M, h1, h2, h3, rfl⟩ := hr'
    simp only at h1
    rw [T.get_set] at h1
    split at h1
    · rename_i e; subst e; exact .inl ⟨c, bl, M, hb, hown, h3, rfl⟩
    · exact .inl ⟨c, bl1, M, h1, h2, h3, rfl⟩
  · simp only at hc
    rw [T.get_set] at hc
    split at hc
    · cases hc; exact hown'.elim
    · exact hc

/-- a block is given up -/
theorem Ext.drop (h : Rep P σ S w) (b : Nat) : Ext P σ S w σ ⟨S.h.set b none, S.nx⟩ w := by
  have key : ∀ c bl, (S.h.set b none).get c = some bl → S.h.get c = some bl := fun c bl hc => by
    rw [T.get_set] at hc
    split at hc
    · cases hc
    · exact hc
  refine ⟨⟨fun c bl hc => h.blk c bl (key c bl hc), fun c bl hc => h.lt c bl (key c bl hc), h.fresh, h.glob, fun c c' bl1 bl2 L1 L2 h1 h2 => h.inj c c' bl1 bl2 L1 L2 (key _ _ h1) (key _ _ h2)⟩,
    fun _ _ => rfl, Nat.le_refl _, fun _ _ _ => rfl, fun r ⟨c, bl, L, h1, h2⟩ => .inl ⟨c, bl, L, key _ _ h1, h2⟩, Nat.le_refl _, rfl, rfl, rfl, fun c cs hc => key _ _ hc⟩

/-- a block of one's own gets another name: the old one is given up, the block is written -/
theorem Ext.rename (h : Rep P σ S w) {b : Nat} {bl bl' : AB} {L L' : Loc} (hb : S.h.get b = some bl) (hown : isOwn bl) (hown' : isOwn bl') (hL : σ b = some L) (hr' : L'.r = L.r)
    (hh : ∀ r, r ≠ L.r → w'.heap[r]? = w.heap[r]?) (hsz : w'.heap.size = w.heap.size) (ho : w'.os = w.os) (ht : w'.tape = w.tape) (hu : w'.output = w.output)
    (hr : BlkRep P (upd σ S.nx L') w' L' bl') : Ext P σ S w (upd σ S.nx L') ⟨(S.h.set b none).set S.nx (some bl'), Nat.succ S.nx⟩ w' := by
  have hf := h.fresh S.nx (Nat.le_refl _)
  have hlt := h.lt b bl hb
  obtain ⟨M, hM1, hM2, _⟩ := h.blk b bl hb
  rw [hL] at hM1; cases hM1
  have key : ∀ c bl1, ((S.h.set b none).set S.nx (some bl')).get c = some bl1 → (c = S.nx ∧ bl1 = bl') ∨ (c ≠ S.nx ∧ c ≠ b ∧ S.h.get c = some bl1) := fun c bl1 hc => by
    rw [T.get_set, T.get_set] at hc
    split at hc
    · cases hc; exact .inl ⟨‹_›, rfl⟩
    · split at hc
      · cases hc
      · exact .inr ⟨‹_›, ‹_›, hc⟩
  refine ⟨⟨fun c bl1 hc => ?_, fun c bl1 hc => ?_, fun c hc => ?_, fun g hg => upd_mono hf _ _ (h.glob g hg), ?_⟩, fun c hc => upd_other _ (by omega), Nat.le_succ _, fun r _ hr1 => hh r (fun e => hr1 ⟨b, bl, L, hb, hown, hL, e.symm⟩), fun r hr1 => ?_, by omega, ho, ht, hu, fun c cs hc => ?_⟩
  · rcases key c bl1 hc with ⟨rfl, rfl⟩ | ⟨h1, h2, h3⟩
    · exact ⟨L', upd_same _ _, by omega, hr⟩
    · obtain ⟨M, h4, h5, h6⟩ := h.blk c bl1 h3
      exact ⟨M, upd_mono hf _ _ h4, by omega, h6.frame (upd_mono hf) (hh _ (Ne.symm (h.inj b c bl bl1 L M hb h3 hown (Ne.symm h2) hL h4)))⟩
  · rcases key c bl1 hc with ⟨rfl, rfl⟩ | ⟨h1, h2, h3⟩
    · exact Nat.lt_succ_self _
    · exact Nat.lt_succ_of_lt (h.lt c bl1 h3)
  · have : c ≠ S.nx := by simp only at hc; omega
    rw [upd_other _ this]
    exact h.fresh c (by simp only at hc; omega)
  · intro c c' bl1 bl2 L1 L2 h1 h2 ho1 hne hL1 hL2
    rcases key c bl1 h1 with ⟨rfl, rfl⟩ | ⟨a1, a2, a3⟩ <;> rcases key c' bl2 h2 with ⟨rfl, rfl⟩ | ⟨b1, b2, b3⟩
    · exact absurd rfl hne
    · rw [upd_same] at hL1; cases hL1
      rw [upd_other _ b1] at hL2
      rw [hr']
      exact h.inj b c' bl bl2 _ _ hb b3 hown (Ne.symm b2) hL hL2
    · rw [upd_same] at hL2; cases hL2
      rw [upd_other _ a1] at hL1
      rw [hr']
      exact (h.inj b c bl bl1 _ _ hb a3 hown (Ne.symm a2) hL hL1).symm
    · rw [upd_other _ a1] at hL1
      rw [upd_other _ b1] at hL2
      exact h.inj c c' bl1 bl2 _ _ a3 b3 ho1 hne hL1 hL2
  · obtain ⟨c, bl1, M, h1, h2, h3, rfl⟩ := hr1
    rcases key c bl1 h1 with ⟨rfl, rfl⟩ | ⟨a1, a2, a3⟩
    · rw [upd_same] at h3; cases h3
      exact .inl ⟨b, bl, L, hb, hown, hL, hr'.symm⟩
    · rw [upd_other _ a1] at h3
      exact .inl ⟨c, bl1, M, a3, h2, h3, rfl⟩
  · rcases key c _ hc with ⟨rfl, h1⟩ | ⟨a1, a2, a3⟩
    · subst h1; exact hown'.elim
    · exact a3
end
end Go.Ev
