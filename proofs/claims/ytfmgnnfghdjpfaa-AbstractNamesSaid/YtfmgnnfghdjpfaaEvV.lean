import Derived.Test.YtfmgnnfghdjpfaaEvU
import Derived.Deep.Upon
namespace Go.Ev
variable {P : Program} {σ : Env} {S : St} {w : World}

/-! ## append -/
theorem byteCells_list (s : List Nat) (hb : Bytes s) : Go.byteCells (mkStr s) = s.map fun b => Value.int .u8 (Int.ofNat b) := by
  unfold Go.byteCells
  simp only [mkStr, List.map_map]
  apply List.map_congr_left
  intro b hbm
  show Value.int .u8 (((UInt8.ofNat b).toNat : Nat) : Int) = _
  rw [byteNat (hb b hbm)]
  rfl
theorem byteCells_Rvs : ∀ (s : List Nat), Rvs P σ (byteCells s) (s.map fun b => Value.int .u8 (Int.ofNat b))
  | [] => Rvs_nil.2 rfl
  | b :: s => Rvs_cons.2 ⟨_, _, rfl, by simp only [Rv], byteCells_Rvs s⟩

theorem src_sound {u : TypeId} {i : TypeInfo} (hu : srcT P u i = true) (hR : Rep P σ S w) {x : AV} {X : Value} (hx : Rv P σ x X) {n : Nat} {new : List AV} (hn : lenOfV x = some n) (hs : srcCells x S.h i.size n = some new) :
    ∃ News, Src P i.size u X n News w ∧ Rvs P σ new News := by
  have hkind : (∃ e', P.underlying u = some (.slice e')) ∨ P.underlying u = some .string := by
    unfold srcT at hu
    split at hu
    · exact .inl ⟨_, ‹_›⟩
    · exact .inr ‹_›
    · cases hu
  cases x <;> simp only [lenOfV, reduceCtorEq, Option.some.injEq] at hn <;> simp only [srcCells, reduceCtorEq] at hs <;> simp only [Rv] at hx
  · obtain ⟨rfl, hb⟩ := hx
    rename_i s
    rw [lenL_eq] at hn
    subst hn
    obtain ⟨h0, hs⟩ := bsel_some hs
    rw [Nat.beq_eq] at h0
    obtain ⟨r, h1, h2⟩ := osel_eq_some hs
    cases h2
    rw [takeL_eq, if_pos (Nat.le_refl _), List.take_length] at h1
    cases h1
    refine ⟨s.map fun b => Value.int .u8 (Int.ofNat b), ⟨hkind, fun _ => by simp [Builtin.lenOf, mkStr_size], ?_, ?_, by simp [h0], fun u hu => by obtain ⟨_, _, rfl⟩ := List.mem_map.1 hu; rfl⟩, byteCells_Rvs s⟩
    · rw [h0, ← byteCells_list s hb]
      have := firstCells_string (P := P) (mkStr s) w
      rw [mkStr_size] at this
      exact this
    · rw [h0, ← byteCells_list s hb]
      have := firstCells_string (P := P) (mkStr s) w.drew
      rw [mkStr_size] at this
      exact this
  · obtain ⟨L, hL, rfl⟩ := hx
    subst hn
    obtain ⟨L', Cs, hL', h3, h4, h5, h6⟩ := loadN_some hR hs
    rw [hL] at hL'; cases hL'
    have hcell : ∀ j u, Cs[j]? = some u → w.cell? ((⟨L.r, L.d + _, none⟩ : Addr).add j) = some u := fun j u hu => by rw [Addr.add_mid]; exact h6 j u hu
    exact ⟨Cs, ⟨hkind, fun _ => rfl, run_firstCells_some w _ _ _ _ _ Cs h4 hcell, run_firstCells_some w.drew _ _ _ _ _ Cs h4 (by simpa using hcell), h4, h5⟩, h3⟩
  · subst hx
    subst hn
    obtain ⟨_, hs⟩ := bsel_some hs
    cases hs
    exact ⟨[], ⟨hkind, fun _ => rfl, run_firstCells_none w _ _ _ _, run_firstCells_none w.drew _ _ _ _, by simp, fun _ h => by cases h⟩, Rvs_nil.2 rfl⟩
  · obtain ⟨A, c, rfl⟩ := hx
    subst hn
    obtain ⟨_, hs⟩ := bsel_some hs
    cases hs
    exact ⟨[], ⟨hkind, fun _ => rfl, run_firstCells_some w _ _ _ _ _ [] (by simp) (fun j u h => by simp at h), run_firstCells_some w.drew _ _ _ _ _ [] (by simp) (fun j u h => by simp at h), by simp, fun _ h => by cases h⟩, Rvs_nil.2 rfl⟩

/-- a new row for what has grown -/
theorem grown_sound {t u ty e : TypeId} {i : TypeInfo} {Z : Value} (ht : P.underlying t = some (.slice e)) (hi : P.info? e = some i) (hZ : i.zero = some Z) (hzs : Z.cells.size = i.size) (hR : Rep P σ S w)
    {base : Option Addr} {sLen sCap n : Nat} {old new : List AV} {Olds News : List Value} (hO : Rvs P σ old Olds) (hO1 : ∀ u ∈ Olds, u.oneCell' = true) (hOl : Olds.length = sLen * i.size)
    (hold : (Builtin.firstCells i.size sLen (.slice base sLen sCap)).run P w.drew = .ok Olds.toArray w.drew) {X : Value} (hs : Src P i.size u X n News w) (hN : Rvs P σ new News)
    (hg : sCap < sLen + n) (h1 : sLen + n ≤ room) (h2 : (sLen + n) * i.bytes ≤ room) :
    ∃ V w' σ', (Builtin.append_ #[t, u] ty #[.slice base sLen sCap, X]).run P w = .ok V w' ∧ Rv P σ' (.sl S.nx 0 (sLen + n) (sLen + n) true) V ∧
      Ext P σ S w σ' ⟨S.h.set S.nx (some (.cells (appL old new) true i.size)), Nat.succ S.nx⟩ w' := by
  unfold room at h1 h2
  have hrun := run_append_grow_src w t u ty e i Z ht hi hZ base sLen sCap Olds hold X n News hs hg (by omega) (growslice_fits hg (by omega))
  have hge := grownCap_ge w (sLen + n) sCap e
  generalize hcap : grownCap w (sLen + n) sCap e = cap at hrun hge
  have hid := hR.fresh S.nx (Nat.le_refl _)
  refine ⟨_, _, upd σ S.nx ⟨w.heap.size, 0, cap - (sLen + n)⟩, hrun, ?_, ?_⟩
  · simp only [Rv]
    refine ⟨_, upd_same _ _, ?_⟩
    simp only [if_true, Nat.add_zero, Nat.zero_add]
    congr 1
    omega
  · refine Ext.alloc hR (ob := .cells ((Olds ++ News).toArray ++ Builtin.zeroCells Z.cells (cap - (sLen + n))) e) rfl rfl rfl rfl ?_ trivial
    refine blk_push (C := Olds ++ News) (X := (Builtin.zeroCells Z.cells (cap - (sLen + n))).toList) (t := e) (fz := (0, 0)) ?_ (.inr rfl) ?_ ?_ (fun _ => ?_)
    · show w.heap.push _ = _
      congr 2
      apply Array.ext'
      simp
    · rw [appL_eq]
      exact (hO.append hN).mono (upd_mono hid)
    · intro u hu
      rcases List.mem_append.1 hu with hu | hu
      · exact hO1 u hu
      · exact hs.one u hu
    · simp [Builtin.zeroCells, hzs]
/-- WHATEVER IS APPENDED TO. -/
theorem append_sound {t u ty e : TypeId} {i : TypeInfo} {z : List AV} (he : elemOfT P t = some (e, i)) (hu : srcT P u i = true) (hz : zeroElemT P e i = some z) (hR : Rep P σ S w)
    {s x : AV} {Sv X : Value} (hs : Rv P σ s Sv) (hx : Rv P σ x X) {v : AV} {S' : St} (h : appendV i.bytes i.size s x S = some (v, S')) :
    ∃ V w' σ', (Builtin.append_ #[t, u] ty #[Sv, X]).run P w = .ok V w' ∧ Rv P σ' v V ∧ Ext P σ S w σ' S' w' := by
  obtain ⟨ht, hi⟩ := elemOfT_some he
  obtain ⟨Z, hZ, _, _, hzs, _⟩ := zeroElemT_some (σ := σ) hi hz
  obtain ⟨n, hn, hh⟩ := osel_eq_some h
  clear h
  obtain ⟨new, hnew, h⟩ := osel_eq_some hh
  clear hh
  obtain ⟨News, hsrc, hN⟩ := src_sound hu hR hx hn hnew
  have hnl := hsrc.newsLen
  have hnothing : n = 0 → Src P i.size u X 0 [] w := fun h0 => by
    subst h0
    have : News = [] := List.eq_nil_of_length_eq_zero (by simpa using hnl)
    subst this
    exact hsrc
  cases s <;> simp only [appV, reduceCtorEq] at h
  case nilsl =>
    simp only [Rv] at hs
    subst hs
    unfold appNil at h
    rw [bsel_eq] at h
    split at h
    · rename_i h0
      rw [Nat.beq_eq] at h0
      cases h
      exact ⟨_, w, σ, run_append_nothing w t u ty e i ht hi none 0 0 (Nat.le_refl _) X (hnothing h0), by simp only [Rv], Ext.refl hR⟩
    · rename_i h0
      rw [Nat.beq_eq] at h0
      obtain ⟨h1, h⟩ := bsel_some h
      obtain ⟨h2, h⟩ := bsel_some h
      cases h
      have h1 := Nat.le_of_ble_eq_true h1
      have h2 := Nat.le_of_ble_eq_true h2
      have := grown_sound (ty := ty) ht hi hZ hzs hR (base := none) (sLen := 0) (sCap := 0) (old := []) (Olds := []) (Rvs_nil.2 rfl) (by simp) (by simp) (run_firstCells_none w.drew _ _ _ _) hsrc hN (by omega) (by simpa using h1) (by simpa using h2)
      simpa [appL_eq] using this
  case emp =>
    simp only [Rv] at hs
    obtain ⟨A, c, rfl⟩ := hs
    obtain ⟨h0, h⟩ := bsel_some h
    rw [Nat.beq_eq] at h0
    cases h
    exact ⟨_, w, σ, run_append_nothing w t u ty e i ht hi (some A) 0 c (Nat.zero_le _) X (hnothing h0), by simp only [Rv]; exact ⟨A, c, rfl⟩, Ext.refl hR⟩
  case sl b off len cap o =>
    have hs' := hs
    simp only [Rv] at hs
    obtain ⟨L, hL, rfl⟩ := hs
    unfold appSl at h
    rw [bsel_eq] at h
    split at h
    · rename_i hfit
      have hfit := Nat.le_of_ble_eq_true hfit
      have hcap : len + n ≤ if o = true then cap + L.e else cap := by split <;> omega
      rw [bsel_eq] at h
      split at h
      · rename_i h0
        rw [Nat.beq_eq] at h0
        cases h
        exact ⟨_, w, σ, run_append_nothing w t u ty e i ht hi _ len _ (by omega) X (hnothing h0), hs', Ext.refl hR⟩
      · obtain ⟨S1, hst, h⟩ := osel_eq_some h
        cases h
        obtain ⟨L', hL', hth, hext⟩ := store_sound hR hN hsrc.one hst
        rw [hL] at hL'; cases hL'
        have hrun := run_append_room_src w t u ty e i ht hi L.r (L.d + off) len (if o = true then cap + L.e else cap) X n News hsrc hcap
          (fun j hj => by have := (hth j hj).1; rwa [show L.d + off + len * i.size = L.d + (off + len * i.size) by omega])
          (fun j hj => by have := (hth j hj).2; rwa [show L.d + off + len * i.size = L.d + (off + len * i.size) by omega])
        refine ⟨_, _, σ, hrun, by simp only [Rv]; exact ⟨L, hL, rfl⟩, ?_⟩
        rw [show L.d + off + len * i.size = L.d + (off + len * i.size) by omega]
        exact hext
    · rename_i hfit
      rw [Nat.ble_eq] at hfit
      obtain ⟨h1, h⟩ := bsel_some h
      obtain ⟨h2, h⟩ := bsel_some h
      obtain ⟨bl, hb, h⟩ := osel_eq_some h
      have h1 := Nat.le_of_ble_eq_true h1
      have h2 := Nat.le_of_ble_eq_true h2
      obtain ⟨L', hL', hLr, hblk⟩ := hR.blk b bl hb
      rw [hL] at hL'; cases hL'
      -- what stands in the slice
      have hold : ∀ (cs : List AV) (Cs : List Value), Rvs P σ cs Cs → (∀ u ∈ Cs, u.oneCell' = true) → w.rangeAt L.r L.d Cs → ∀ old, cut cs off (len * i.size) = some old →
          ∃ Olds, Rvs P σ old Olds ∧ (∀ u ∈ Olds, u.oneCell' = true) ∧ Olds.length = len * i.size ∧ w.rangeAt L.r (L.d + off) Olds ∧ Olds = (Cs.drop off).take (len * i.size) ∧
            ∀ c, (Builtin.firstCells i.size len (.slice (some ⟨L.r, L.d + off, none⟩) len c)).run P w.drew = .ok Olds.toArray w.drew := by
        intro cs Cs hC hC1 hC2 old hcut
        have hc := hC.cut hcut
        have hr := range_cut (i := off) (n := len * i.size) hC2
        exact ⟨_, hc.1, fun u hu => hC1 u (List.mem_of_mem_drop (List.mem_of_mem_take hu)), hc.2, hr, rfl, fun c => run_firstCells_some w.drew _ _ _ _ _ _ hc.2 (fun j u hu => by
          rw [Addr.add_mid]
          simpa using hr j u hu)⟩
      cases bl <;> simp only [growB, reduceCtorEq] at h
      · rename_i cs o' sz
        obtain ⟨Cs, hC, hC1, hC2, hC3⟩ := hblk
        obtain ⟨old, hcut, h⟩ := osel_eq_some h
        obtain ⟨Olds, hO, hO1, hOl, hO2, hOe, hOf⟩ := hold cs Cs hC hC1 hC2 old hcut
        cases o with
        | false =>
          rw [bsel_false] at h
          cases h
          simp only [Bool.false_eq_true, if_false]
          exact grown_sound ht hi hZ hzs hR hO hO1 hOl (hOf cap) hsrc hN (by omega) h1 h2
        | true =>
          rw [bsel_true] at h
          obtain ⟨ho', g1⟩ := bsel_some h
          obtain ⟨hsz, g2⟩ := bsel_some g1
          obtain ⟨hend, g3⟩ := bsel_some g2
          clear h g1 g2
          subst ho'
          rw [Nat.beq_eq] at hsz hend
          rw [lenL_eq] at hend
          subst hsz
          cases g3
          simp only [if_true]
          have hCl := hC.length
          by_cases hin : len + n ≤ cap + L.e
          · -- in place
            have hthere : ∀ j, j < News.length → (w.cell? ⟨L.r, L.d + off + len * i.size + j, none⟩).isSome = true ∧ w.frozen? ⟨L.r, L.d + off + len * i.size + j, none⟩ = false := by
              intro j hj
              have hb1 : off + len * i.size + j < Cs.length + L.e * i.size := by
                have e1 : (len + n) * i.size ≤ (cap + L.e) * i.size := Nat.mul_le_mul_right _ hin
                rw [Nat.add_mul, Nat.add_mul] at e1
                omega
              have := hC3 (off + len * i.size + j) (by simpa using hb1)
              rwa [show L.d + (off + len * i.size + j) = L.d + off + len * i.size + j by omega] at this
            have hrun := run_append_room_src w t u ty e i ht hi L.r (L.d + off) len (cap + L.e) X n News hsrc hin (fun j hj => (hthere j hj).1) (fun j hj => (hthere j hj).2)
            have hid := hR.fresh S.nx (Nat.le_refl _)
            refine ⟨_, _, upd σ S.nx ⟨L.r, L.d + off, cap + L.e - (len + n)⟩, hrun, ?_, ?_⟩
            · simp only [Rv]
              refine ⟨_, upd_same _ _, ?_⟩
              simp only [if_true, Nat.add_zero]
              congr 1
              omega
            · obtain ⟨e1, e2, e3⟩ := os_setCells L.r News (L.d + off + len * i.size) w
              refine Ext.rename hR hb trivial trivial hL rfl (fun r hr => heap_setCells_other L.r News _ w r hr) (size_setCells L.r News _ w) e1 e2 e3 ?_
              refine ⟨Olds ++ News, ?_, ?_, fun j v hv => ?_, fun j hj => ?_⟩
              · rw [appL_eq]; exact (hO.append hN).mono (upd_mono hid)
              · intro u hu
                rcases List.mem_append.1 hu with hu | hu
                · exact hO1 u hu
                · exact hsrc.one u hu
              · by_cases hj : j < Olds.length
                · rw [List.getElem?_append_left hj] at hv
                  rw [World.cell?_setCells_out L.r News _ w _ (fun _ _ => .inl (by simp only; omega))]
                  exact hO2 j v hv
                · rw [List.getElem?_append_right (by omega)] at hv
                  have hj2 := (List.getElem?_eq_some_iff.1 hv).1
                  have := World.cell?_setCells_in L.r News (L.d + off + len * i.size) w (fun k hk => (hthere k hk).1) (j - Olds.length) hj2
                  rw [show L.d + off + len * i.size + (j - Olds.length) = L.d + off + j by omega] at this
                  simp only
                  rw [this]
                  rw [List.getElem?_eq_getElem hj2] at hv
                  exact hv
              · have e4 : (len + n) * i.size + (cap + L.e - (len + n)) * i.size = (cap + L.e) * i.size := by rw [← Nat.add_mul]; congr 1; omega
                have e5 : (len + n) * i.size = len * i.size + n * i.size := Nat.add_mul _ _ _
                have e6 : (cap + L.e) * i.size = cap * i.size + L.e * i.size := Nat.add_mul _ _ _
                simp only [List.length_append, if_true] at hj
                have := hC3 (off + j) (by simp only [if_true]; omega)
                rw [← Nat.add_assoc] at this
                exact ⟨World.isSome_setCells L.r News _ w _ this.1, by rw [World.frozen?_setCells]; exact this.2⟩
          · -- a new row; the old name is given up
            have hdrop := Ext.drop hR b
            obtain ⟨V, w', σ', h5, h6, h7⟩ := grown_sound (S := ⟨S.h.set b none, S.nx⟩) (ty := ty) ht hi hZ hzs hdrop.rep hO hO1 hOl (hOf (cap + L.e)) hsrc hN (by omega) h1 h2
            exact ⟨V, w', σ', h5, h6, hdrop.trans h7⟩
      · rename_i cs
        obtain ⟨Cs, hC, hC1, hC2⟩ := hblk
        cases o with
        | true => simp [bsel_true] at h
        | false =>
          rw [bsel_false] at h
          obtain ⟨old, hcut, h⟩ := osel_eq_some h
          obtain ⟨Olds, hO, hO1, hOl, hO2, hOe, hOf⟩ := hold cs Cs hC hC1 hC2 old hcut
          cases h
          simp only [Bool.false_eq_true, if_false]
          exact grown_sound ht hi hZ hzs hR hO hO1 hOl (hOf cap) hsrc hN (by omega) h1 h2
end Go.Ev
