import Derived.Test.YtfmgnnfghdjpfaaEvT
import Derived.CallsIn
namespace Go.Ev
variable {P : Program} {σ : Env} {S : St} {w : World}

/-- ONE OPERATION THAT MAKES A BLOCK. -/
theorem evA_sound {o : Oper} {ao : AlOp} (hc : cOp P o.op = some (.a ao)) {F : Fr} {a : Act} (hF : FrR P σ F a.tmps) (hR : Rep P σ S w) (id : Nat) (hid : σ id = none) {v : AV} {bl : AB} (hv : evA ao F id = some (v, bl)) :
    ∃ V w', (execOp a.eval o).run P w = .ok (.value V) w' ∧ MadeR P σ w id v bl V w' := by
  obtain ⟨dst, op, type, pos, after, guard⟩ := o
  simp only at hc
  cases op <;> (try (first | (obtain ⟨y, _, h2⟩ := q_some hc; cases h2; done) | (obtain ⟨y, _, h2⟩ := xx_some hc; cases h2; done) | (cases hc; done)))
  case alloc t =>
    obtain ⟨y, h1, h2⟩ := al_some hc; cases h2
    obtain ⟨z, hz, h1⟩ := bind_some' h1; cases h1
    cases hv
    exact alloc_sound rfl hz id hid
  case box t x =>
    obtain ⟨y, h1, h2⟩ := al_some hc; cases h2
    obtain ⟨X, hX, h1⟩ := bind_some' h1; cases h1
    obtain ⟨cs, h3, h4⟩ := osel_eq_some (show (osel (X.val F).cells fun cs => some (AV.ptr id 0, AB.cells cs false 0)) = some (v, bl) from hv)
    cases h4
    exact box_sound rfl hX hF hR h3 id hid
  case build t ps =>
    simp only [cOp] at hc
    split at hc
    · rw [Bool.cond_eq_ite] at hc
      split at hc
      · obtain ⟨y, _, h2⟩ := q_some hc; cases h2
      · cases hc
    · obtain ⟨y, _, h2⟩ := q_some hc; cases h2
    · cases hc
  case buildSlice t n ps =>
    obtain ⟨y, h1, h2⟩ := al_some hc; cases h2
    obtain ⟨⟨e, i⟩, he, h1⟩ := bind_some' h1
    simp only at h1
    split at h1
    · cases h1
    · rename_i hn
      obtain ⟨z, hz, h1⟩ := bind_some' h1
      obtain ⟨qs, hq, h1⟩ := bind_some' h1; cases h1
      obtain ⟨cs, h3, h4⟩ := osel_eq_some (show (osel (fillP (repeatL z n) (parts2V i.size F qs)) fun cs => some (AV.sl id 0 n n false, AB.cells cs false 0)) = some (v, bl) from hv)
      cases h4
      exact bslice_sound rfl he (by omega) hz hq hF hR id hid h3
  case makeSlice t l c =>
    obtain ⟨y, h1, h2⟩ := al_some hc; cases h2
    obtain ⟨⟨e, i⟩, he, h1⟩ := bind_some' h1
    obtain ⟨z, hz, h1⟩ := bind_some' h1
    obtain ⟨L, hL, h1⟩ := bind_some' h1
    obtain ⟨C, hC, h1⟩ := bind_some' h1; cases h1
    exact mkSlice_sound rfl he hz hL hC hF hR id hid hv
  case makeMap t r =>
    cases r <;> simp only [cOp, reduceCtorEq] at hc
    obtain ⟨y, h1, h2⟩ := al_some hc; cases h2
    cases h1
    cases hv
    exact mkMap_sound rfl id
  case insert t m k x =>
    simp only [cOp] at hc
    split at hc
    · obtain ⟨y, _, h2⟩ := xx_some hc; cases h2
    · cases hc
  case mapUpdate t m k x =>
    simp only [cOp] at hc
    split at hc
    · obtain ⟨y, _, h2⟩ := xx_some hc; cases h2
    · cases hc
  case convert src dst x =>
    simp only [cOp] at hc
    split at hc
    · obtain ⟨y, _, h2⟩ := q_some hc; cases h2
    · obtain ⟨y, _, h2⟩ := q_some hc; cases h2
    · obtain ⟨y, _, h2⟩ := q_some hc; cases h2
    · split at hc
      · obtain ⟨y, _, h2⟩ := q_some hc; cases h2
      · cases hc
    · split at hc
      · cases hc
      · cases hc
    · cases hc
  case makeInterface t x =>
    simp only [cOp] at hc
    split at hc
    · cases hc
    · obtain ⟨y, _, h2⟩ := q_some hc; cases h2
    · cases hc
  case makeFunc fn x y =>
    cases fn <;> (try (first | (obtain ⟨y, _, h2⟩ := q_some hc; cases h2; done) | (cases hc; done)))
    simp only [cOp] at hc
    split at hc
    · obtain ⟨y, _, h2⟩ := q_some hc; cases h2
    · cases hc
  case slice t x lo hh mx =>
    simp only [cOp, Bool.cond_eq_ite] at hc
    split at hc
    · cases hc
    · split at hc
      · obtain ⟨y, _, h2⟩ := q_some hc; cases h2
      · obtain ⟨y, _, h2⟩ := q_some hc; cases h2
      · obtain ⟨y, _, h2⟩ := q_some hc; cases h2
      · cases hc
  case fieldAddr t x f =>
    simp only [cOp] at hc
    split at hc
    · obtain ⟨y, _, h2⟩ := q_some hc; cases h2
    · cases hc
  case field t x f =>
    simp only [cOp] at hc
    split at hc
    · obtain ⟨y, _, h2⟩ := q_some hc; cases h2
    · cases hc
  case indexAddr t x f =>
    simp only [cOp] at hc
    split at hc
    · obtain ⟨y, _, h2⟩ := q_some hc; cases h2
    · obtain ⟨y, _, h2⟩ := q_some hc; cases h2
    · cases hc
  case index t x f =>
    simp only [cOp] at hc
    split at hc
    · obtain ⟨y, _, h2⟩ := q_some hc; cases h2
    · obtain ⟨y, _, h2⟩ := q_some hc; cases h2
    · cases hc
  case lookup t x f ok =>
    simp only [cOp] at hc
    split at hc
    · obtain ⟨y, _, h2⟩ := q_some hc; cases h2
    · cases hc
  case typeAssert x xt t ok =>
    simp only [cOp] at hc
    split at hc
    · cases hc
    · obtain ⟨y, _, h2⟩ := q_some hc; cases h2
    · cases hc
  case call c =>
    obtain ⟨callee, args, argTypes⟩ := c
    cases callee with
    | value f =>
      simp only [cOp] at hc
      split at hc
      · cases hc
      · obtain ⟨y, _, h2⟩ := xx_some hc; cases h2
    | invoke r m => cases hc
    | builtin b =>
      simp only [cOp] at hc
      split at hc
      · split at hc
        all_goals (first | (obtain ⟨y, _, h2⟩ := q_some hc; cases h2; done) | (cases hc; done))
      · split at hc
        all_goals (first | (obtain ⟨y, _, h2⟩ := q_some hc; cases h2; done) | (cases hc; done))
      · obtain ⟨y, _, h2⟩ := q_some hc; cases h2
      · obtain ⟨y, _, h2⟩ := q_some hc; cases h2
      · split at hc
        · rw [Bool.cond_eq_ite] at hc
          split at hc
          · obtain ⟨y, _, h2⟩ := xx_some hc; cases h2
          · cases hc
        · cases hc
      · cases hc

/-! ## writing -/
theorem heap_setCells_other (g : Nat) : ∀ (vs : List Value) (o : Nat) (w : World) (r : Nat), r ≠ g → (w.setCells g o vs).heap[r]? = w.heap[r]?
  | [], o, w, r, h => rfl
  | v :: vs, o, w, r, h => by
    rw [World.setCells, heap_setCells_other g vs (o + 1) _ r h]
    exact heap_setCell_other w ⟨g, o, none⟩ r v h
theorem size_setCells (g : Nat) : ∀ (vs : List Value) (o : Nat) (w : World), (w.setCells g o vs).heap.size = w.heap.size
  | [], o, w => rfl
  | v :: vs, o, w => by rw [World.setCells, size_setCells g vs (o + 1)]; simp
theorem os_setCells (g : Nat) : ∀ (vs : List Value) (o : Nat) (w : World), (w.setCells g o vs).os = w.os ∧ (w.setCells g o vs).tape = w.tape ∧ (w.setCells g o vs).output = w.output
  | [], o, w => ⟨rfl, rfl, rfl⟩
  | v :: vs, o, w => by rw [World.setCells]; exact os_setCells g vs (o + 1) _

/-- cells are put into a row of one's own -/
theorem store_sound (hR : Rep P σ S w) {b off : Nat} {cs : List AV} {Cs : List Value} (hC : Rvs P σ cs Cs) (h1 : ∀ u ∈ Cs, u.oneCell' = true) {S' : St} (h : storeN S b off cs = some S') :
    ∃ L, σ b = some L ∧ w.there L.r (L.d + off) Cs.length ∧ Ext P σ S w σ S' (w.setCells L.r (L.d + off) Cs) := by
  obtain ⟨bl, hb, h⟩ := osel_eq_some h
  cases bl <;> simp only [storeB, reduceCtorEq] at h
  rename_i old o s
  obtain ⟨cs', hput, h⟩ := osel_eq_some h
  cases h
  obtain ⟨L, hL, hlt, Os, h2, h3, h4, h5⟩ := hR.blk b _ hb
  have hle := (put_some hput).1
  have hlen := h2.length
  have hcl := hC.length
  have hth : w.there L.r (L.d + off) Cs.length := fun j hj => by
    have := h5 (off + j) (by omega)
    rwa [← Nat.add_assoc] at this
  refine ⟨L, hL, hth, ?_⟩
  obtain ⟨e1, e2, e3⟩ := os_setCells L.r Cs (L.d + off) w
  have hput' := h2.put hC hput
  refine Ext.write hR hb trivial trivial hL (fun r hr => heap_setCells_other L.r Cs _ w r hr) (size_setCells L.r Cs _ w) e1 e2 e3 ?_
  refine ⟨Os.take off ++ Cs ++ Os.drop (off + Cs.length), hput', fun u hu => ?_, fun j v hv => ?_, fun j hj => ?_⟩
  · simp only [List.mem_append] at hu
    rcases hu with (hu | hu) | hu
    · exact h3 u (List.mem_of_mem_take hu)
    · exact h1 u hu
    · exact h3 u (List.mem_of_mem_drop hu)
  · have hget : (Os.take off ++ Cs ++ Os.drop (off + Cs.length))[j]? = if j < off then Os[j]? else if j < off + Cs.length then Cs[j - off]? else Os[j]? :=
      put_get (l := Os) (vs := Cs) (k := off) (by rw [put_eq, if_pos (by omega)]) j
    rw [hget] at hv
    split at hv
    · rename_i hlt1
      rw [World.cell?_setCells_out L.r Cs (L.d + off) w _ (fun _ _ => .inl (by simp only; omega))]
      exact h4 j v hv
    · split at hv
      · rename_i h6 h7
        have := World.cell?_setCells_in L.r Cs (L.d + off) w (fun k hk => (hth k hk).1) (j - off) (by omega)
        rw [show L.d + off + (j - off) = L.d + j by omega] at this
        rw [this]
        rw [List.getElem?_eq_getElem (by omega)] at hv
        exact hv
      · rename_i h6 h7
        rw [World.cell?_setCells_out L.r Cs (L.d + off) w _ (fun _ _ => .inr (by simp only; omega))]
        exact h4 j v hv
  · have hj' : j < Os.length + if o = true then L.e * s else 0 := by
      have : (Os.take off ++ Cs ++ Os.drop (off + Cs.length)).length = Os.length := by simp; omega
      rw [this] at hj
      exact hj
    have := h5 j hj'
    exact ⟨World.isSome_setCells L.r Cs (L.d + off) w _ this.1, by rw [World.frozen?_setCells]; exact this.2⟩
end Go.Ev
