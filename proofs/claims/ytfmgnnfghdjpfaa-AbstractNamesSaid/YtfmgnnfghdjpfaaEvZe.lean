import Derived.Test.YtfmgnnfghdjpfaaEvZd
namespace Go.Ev
variable {P : Program} {aos : List AO} {base : Nat} {call : CallF} {Ds : Nat → DS} {ops : Array Oper} {nt : Nat}

def In (listed : Array Bool) (i : Nat) : Prop := listed.getD i false = true

theorem getD_of_true {listed : Array Bool} {i : Nat} (h : listed.getD i true = false) : listed[i]? = some false := by
  rw [Array.getD_eq_getD_getElem?] at h
  cases hi : listed[i]? with
  | none => rw [hi] at h; cases h
  | some b => rw [hi] at h; simp at h; rw [h]

theorem In_set {listed : Array Bool} {k : Nat} (hk : k < listed.size) (i : Nat) : In (listed.setIfInBounds k true) i ↔ With (In listed) k i := by
  unfold In With
  simp only []
  show (listed.setIfInBounds k true).getD i false = true ↔ (listed.getD i false = true ∨ i = k)
  rw [Array.getD_eq_getD_getElem?, Array.getElem?_setIfInBounds, Array.getD_eq_getD_getElem?]
  by_cases h : k = i
  · subst h; simp [hk]
  · rw [if_neg h]
    exact ⟨.inl, fun h1 => h1.elim id (fun e => absurd e.symm h)⟩

theorem Inv.congr {σ0 : Env} {S0 : St} {w0 : World} {D D' : Nat → Prop} {s : Nat} {σ : Env} {w : World} {Fh : Fr} {tmps : Array Value} (h : Inv P aos base Ds σ0 S0 w0 D s σ w Fh tmps) (hD : ∀ i, D' i ↔ D i) : Inv P aos base Ds σ0 S0 w0 D' s σ w Fh tmps := by
  have : D' = D := funext fun i => propext (hD i)
  rw [this]; exact h

/-- the end: all is carried out -/
theorem Inv.done {σ0 : Env} {S0 : St} {w0 : World} {D : Nat → Prop} {s : Nat} {σ : Env} {w : World} {Fh : Fr} {tmps : Array Value} (hg : Reg P nt ops aos base call Ds) (h : Inv P aos base Ds σ0 S0 w0 D s σ w Fh tmps) (hall : ∀ i, i < aos.length → D i) :
    FrR P σ (Ds aos.length).F tmps ∧ Ext P σ0 S0 w0 σ ⟨(flush (2 ^ aos.length - 1) (Ds aos.length).ps (Ds aos.length).S.h).2, (Ds aos.length).S.nx⟩ w := by
  constructor
  · refine ⟨fun t => ?_⟩
    have := h.frame.get t
    obtain ⟨i, hi, h1, h2⟩ := h.slots t
    rw [h1] at this
    rw [hg.tr.slot_keep hi (Nat.le_refl _) (fun j o h3 h4 h5 h6 => by have := (h2 j o h5 h6).1 (hall j h4); omega)]
    exact this
  · refine (h.laid hg (Nat.le_refl _) (fun c hc => ⟨fun h1 => hall c h1, fun _ => ?_⟩) (fun i hi _ => hall i hi)).1
    obtain ⟨o, _, h1, _⟩ := hc
    exact (List.getElem?_eq_some_iff.1 h1).1

theorem all_listed (hg : Reg P nt ops aos base call Ds) {listed : Array Bool} (hsz : listed.size = ops.size) (hr : Region.ready .any ops listed = []) : ∀ i, i < aos.length → In listed i := by
  intro i
  induction i using Nat.strongRecOn with
  | _ i ih =>
    intro hi
    have hi' : i < ops.size := by rw [← hg.len]; exact hi
    cases hb : listed.getD i true with
    | true =>
      unfold In
      rw [Array.getD_eq_getD_getElem?, Array.getElem?_eq_getElem (by omega)] at hb ⊢
      simpa using hb
    | false =>
      have ho : ops[i]? = some ops[i] := Array.getElem?_eq_getElem _
      have : i ∈ Region.ready .any ops listed := mem_ready.2 ⟨hb, _, ho, fun e he hbi => by
        have := hg.back i _ ho e he hbi
        exact ih e.on this (by omega)⟩
      rw [hr] at this
      cases this

/-- A REGION THAT DRAWS ITS ORDER, from any place on. -/
theorem drawn_go (hA : Asked P) (hB : BitsSound P) (hcall : CallSpec P call) (hg : Reg P nt ops aos base call Ds) {σ0 : Env} {S0 : St} {w0 : World} (hb0 : S0.nx ≤ base) {ro : Option Nat} {m : Nat} {Q : Exit → Act → World → Prop} {ds : List Deferred}
    (hQ : ∀ σ' a' w', FrR P σ' (Ds aos.length).F a'.tmps → a'.tmps.size = nt → a'.defers = ds → Ext P σ0 S0 w0 σ' ⟨(flush (2 ^ aos.length - 1) (Ds aos.length).ps (Ds aos.length).S.h).2, (Ds aos.length).S.nx⟩ w' → Q .normal a' w') :
    ∀ (fuel : Nat) (listed : Array Bool) (s : Nat) (σ : Env) (Fh : Fr) (a : Act) (w : World), listed.size = ops.size → unl listed.toList ≤ fuel → Closed ops (In listed) → a.tmps.size = nt → a.defers = ds →
      Inv P aos base Ds σ0 S0 w0 (In listed) s σ w Fh a.tmps → wpAnyIn (Fw ro) m P .any ops Q fuel listed a w := by
  intro fuel
  induction fuel with
  | zero =>
    intro listed s σ Fh a w hsz hun hcl hnt hds hI
    have hall : ∀ i, i < aos.length → In listed i := fun i hi => by
      have := unl_zero (Nat.le_zero.1 hun) i (by rw [Array.length_toList, hsz, ← hg.len]; exact hi)
      unfold In
      rw [Array.getD_eq_getD_getElem?, ← Array.getElem?_toList, this]; rfl
    obtain ⟨h1, h2⟩ := hI.done hg hall
    refine ⟨?_, hQ σ a w h1 hnt hds h2⟩
    cases hr : Region.ready .any ops listed with
    | nil => rfl
    | cons j r =>
      have hj : j ∈ Region.ready .any ops listed := by rw [hr]; simp
      obtain ⟨hj1, o, ho, _⟩ := mem_ready.1 hj
      have h3 := hall j (by rw [hg.len]; exact (Array.getElem?_eq_some_iff.1 ho).1)
      have h4 := getD_of_true hj1
      unfold In at h3
      rw [Array.getD_eq_getD_getElem?, h4] at h3
      cases h3
  | succ fuel ih =>
    intro listed s σ Fh a w hsz hun hcl hnt hds hI
    refine ⟨fun hr => ?_, fun k hk => ?_⟩
    · obtain ⟨h1, h2⟩ := hI.done hg (all_listed hg hsz hr)
      exact hQ σ a w h1 hnt hds h2
    · obtain ⟨hj1, o, ho, hpre⟩ := mem_ready.1 hk
      have hfalse := getD_of_true hj1
      have hkl : k < ops.size := (Array.getElem?_eq_some_iff.1 ho).1
      have hkD : ¬ In listed k := fun h => by
        unfold In at h
        rw [Array.getD_eq_getD_getElem?, hfalse] at h
        cases h
      obtain ⟨ao, hao, hd, hgd, hdst, hop⟩ := hg.op k o ho
      have hm : ∀ i, Nat.testBit ao.mask i = true → In listed i := hg.bits _ hcl k o ao ho hao hpre
      have hagree : ∀ t ∈ ao.touch, tmpV t Fh = tmpV t (Ds k).F := fun t ht => (hI.agree hg hcl hao hkD hm ht).1
      have hagW : Agree (ao.grd.map (·.1)).toList Fh (Ds k).F := fun t ht => hagree t (by unfold AO.touch; exact List.mem_append_right _ (List.mem_append_left _ ht))
      have hagO : Agree ao.op.rd Fh (Ds k).F := fun t ht => hagree t (by unfold AO.touch; exact List.mem_append_right _ (List.mem_append_right _ ht))
      have hd' : dstOk a.tmps.size ao.dst = true := by rw [hnt, hdst]; exact hd
      have hsz' : (listed.setIfInBounds k true).size = ops.size := by simp [hsz]
      have hun' : unl (listed.setIfInBounds k true).toList ≤ fuel := by
        have := unl_set (l := listed.toList) (k := k) (by rw [Array.getElem?_toList]; exact hfalse)
        simp only [Array.toList_setIfInBounds]
        omega
      have hcl' : Closed ops (In (listed.setIfInBounds k true)) := by
        intro j oj hoj hDj e he hb
        rw [In_set (by omega)] at hDj ⊢
        rcases hDj with h1 | h1
        · exact .inl (hcl j oj hoj h1 e he hb)
        · subst h1; rw [ho] at hoj; cases hoj; exact .inl (hpre e he hb)
      have next : ∀ (s' : Nat) (σ' : Env) (w' : World) (v : AV) (V : Value), Inv P aos base Ds σ0 S0 w0 (With (In listed) k) s' σ' w' (putF ao.dst Fh v) (a.put ao.dst V).tmps → wpAnyIn (Fw ro) m P .any ops Q fuel (listed.setIfInBounds k true) (a.put o.dst V) w' := by
        intro s' σ' w' v V hI'
        rw [← hdst]
        exact ih _ s' σ' _ _ w' hsz' hun' hcl' (by rw [put_size]; exact hnt) (by rw [put_defers]; exact hds) (hI'.congr (fun i => In_set (by omega) i))
      unfold wpOpIn
      simp only [ho]
      rw [wants_sound hgd hI.frame, wants_congr hagW]
      have hund : ∀ σ, Rv P σ .undef undef := fun σ => by simp only [AV.undef, undef, Rv]; exact ⟨[], rfl, Rvs_nil.2 rfl⟩
      have hkl' : k < aos.length := by rw [hg.len]; exact hkl
      cases hg.tr.kind hao with
      | no hw e =>
        rw [hw, if_neg (by simp)]
        refine ⟨fun _ _ => trivial, next s σ w .undef undef ?_⟩
        exact hI.quiet hg hcl hao hkD hm (not_made hao fun _ _ => hw) (not_chain hao fun _ _ => hw) (fun d hd => by rw [e, hd]; exact putF_same) hd' (hund σ)
      | q q v hw hq hv e =>
        rw [hw, if_pos rfl]
        rw [hq] at hop hagO
        have hop : cOp P o.op = some (.q q) := hop.resolve_right (by simp)
        have hev : evQ q Fh (Ds s).S.h = some v := by
          rw [evQ_congr hagO]
          cases hl : isLoad q with
          | false => rw [evQ_blind hl _ _ (Ds k).S.h]; exact hv
          | true =>
            have hmem : (⟨q, (Ds k).F, v, k, ao.mask⟩ : Loaded) ∈ (Ds aos.length).ls := hg.tr.loads_mono (show k + 1 ≤ aos.length by omega) (Nat.le_refl _) _ (by rw [e, hl]; simp [bsel_eq])
            exact sameO_eq (hg.tr.load hg.hs0 hg.loads hmem (D := In listed) (fun j oj hDj hoj => hg.mask hcl hDj hoj) hm hkD hI.sle hI.chain)
        obtain ⟨V, h3, h4⟩ := evQ_sound hA hop hI.frame hI.ext.rep hev
        refine ⟨fun _ _ => trivial, ?_⟩
        rw [semAt_eq (cOp_noDefer hop), h3]
        exact next s σ w v V (hI.quiet hg hcl hao hkD hm (not_made hao fun x hx => by rw [hq] at hx; cases hx) (not_chain hao fun x hx => by rw [hq] at hx; cases hx) (fun d hd => by rw [e, hd]; exact putF_same) hd' h4)
      | a al v bl hw hq hv e =>
        rw [hw, if_pos rfl]
        rw [hq] at hop hagO
        have hop : cOp P o.op = some (.a al) := hop.resolve_right (by simp)
        have hev : evA al Fh (base + k) = some (v, bl) := by rw [evA_congr hagO]; exact hv
        obtain ⟨V, w', h3, h4⟩ := evA_sound hop hI.frame hI.ext.rep (base + k) (hI.free k hkl' hkD) hev
        refine ⟨fun _ _ => trivial, ?_⟩
        rw [semAt_eq (cOp_noDefer hop), h3]
        obtain ⟨σ', hI'⟩ := hI.alloc hg hb0 hcl hao hkD hm (not_chain hao fun x hx => by rw [hq] at hx; cases hx) (fun b hMb => by
          obtain ⟨o', a', v', h5, h6, h7, h8⟩ := hMb
          rw [hao] at h5; cases h5; rw [hq] at h6; cases h6; rw [hv] at h8; cases h8; rfl) (fun d hd => by rw [e, hd]; exact putF_same) hd' h4
        exact next s σ' w' v V hI'
      | x x v S hw hq hl hv e =>
        rw [hw, if_pos rfl]
        rw [hq] at hop hagO
        have hch : Chain aos Ds k := ⟨ao, x, hao, hq, hw⟩
        have hmk : ∀ (j : Nat) (oj : AO), In listed j → aos[j]? = some oj → ∀ i, Nat.testBit oj.mask i = true → In listed i := fun j oj hDj hoj => hg.mask hcl hDj hoj
        have hc : ∀ c, Chain aos Ds c → (c < k ↔ In listed c) := fun c hcc => by
          refine ⟨fun hlt => hg.tr.before hg.hs0 hmk k hkl' ao hao hch hm c hlt hcc, fun hDc => ?_⟩
          rcases Nat.lt_trichotomy c k with h1 | h1 | h1
          · exact h1
          · rw [h1] at hDc; exact absurd hDc hkD
          · obtain ⟨oc, xc, h2, h3, h4⟩ := hcc
            exact absurd (hg.tr.before hg.hs0 hmk c (List.getElem?_eq_some_iff.1 h2).1 oc h2 ⟨oc, xc, h2, h3, h4⟩ (hmk c oc hDc h2) k h1 hch) hkD
        obtain ⟨hlay, _⟩ := hI.laid hg (m := ao.mask) (show k ≤ aos.length by omega) hc (fun i _ hb => hm i hb)
        rcases hop with hop | hop
        · have hev : evX x call Fh ⟨(flush ao.mask (Ds k).ps (Ds k).S.h).2, (Ds k).S.nx⟩ = some (v, S) := by rw [evX_congr hagO]; exact hv
          refine ⟨fun _ _ => trivial, ?_⟩
          rw [semAt_eq (cOp_noDefer hop)]
          refine upon_of_next (evX_sound hA hB hcall hop hI.frame hlay.rep hev) ?_
          rintro V w' ⟨σ', h3, h4⟩
          exact next (k + 1) σ' w' v V (hI.act hg hcl hao hkD hm hch hc (fun d hd => by rw [e, hd]; exact putF_same) hd' (by rw [e]; exact h4) h3)
        · cases hop
          cases hv

/-- THE REGIONS THAT DRAW THEIR ORDER. -/
theorem drawn_sound (hA : Asked P) (hB : BitsSound P) (hmix : P.follows .mixedOrders = true) (call : CallF) (hcall : CallSpec P call) : DrawnSpec P call := by
  intro ro n nt id ops aos hc σ F F' S S' a w Q hnt hF hR hev hQ
  unfold cDrawn at hc
  split at hc
  · rename_i aos' hops
    rw [Bool.cond_eq_ite] at hc
    split at hc
    · rename_i hcond
      cases hc
      rw [Bool.and_eq_true] at hcond
      obtain ⟨hedge, hdrw⟩ := hcond
      obtain ⟨hlen, hget⟩ := cOpers_get hops
      rw [Array.length_toList] at hlen
      obtain ⟨Df, h1, h2⟩ := osel_eq_some (show (osel (evDs aos 0 S.nx call ⟨F, ⟨S.h, S.nx + lenL aos⟩, [], [], []⟩) fun D => endDrawn S.h (lenL aos) D) = some (F', S') from hev)
      obtain ⟨Ds, e0, hstep, eN⟩ := evDs_trace h1
      simp only [Nat.zero_add] at hstep eN
      rw [lenL_eq] at h2 e0
      obtain ⟨hlo, h3⟩ := bsel_some (show bsel (loadsOk S.h Df.hs.reverse Df.ls) (some (Df.F, (⟨(flush (2 ^ aos.length - 1) Df.ps Df.S.h).2, Df.S.nx⟩ : St))) none = some (F', S') from h2)
      cases h3
      have hg : Reg P nt ops aos S.nx call Ds := by
        refine ⟨⟨hstep⟩, hlen, fun j o ho => ?_, fun j o ho e he hb => ?_, fun D hD j o ao ho hao hp i hbit => ?_, fun i j x y hij hx hy hm => ?_, by rw [e0], by rw [e0], ?_⟩
        · obtain ⟨ao, h4, h5⟩ := hget j o (by rw [Array.getElem?_toList]; exact ho)
          obtain ⟨b1, b2, b3, b4, b5⟩ := cOper_some h5
          exact ⟨ao, h4, b1, b2, b3, b5⟩
        · have := edgesGo_get hedge (by rw [Array.getElem?_toList]; exact ho) e he hb
          omega
        · have hb := (beforeL_bits (D := D) ops.toList 0 [] rfl (fun i hi => by omega) (fun k o' ho' hDk => hD k o' (by rw [← Array.getElem?_toList]; exact ho') (by simpa using hDk))).2 j o (by rw [Array.getElem?_toList]; exact ho) hp i
          obtain ⟨ao', h4, h5⟩ := hget j o (by rw [Array.getElem?_toList]; exact ho)
          rw [hao] at h4; cases h4
          obtain ⟨_, _, _, b4, _⟩ := cOper_some h5
          rw [b4] at hbit
          exact hb (by rw [Nat.zero_add]; exact hbit)
        · have := drwGo_get hdrw hij hx hy hm
          rwa [Nat.zero_add] at this
        · rw [eN, e0]; exact hlo
      refine wpIn_region_any hmix ?_
      have hE : Ext P σ S w σ ⟨S.h, S.nx + aos.length⟩ { w with drawn := w.drawn + 1 } := by
        have h5 := Ext.heap (w' := { w with drawn := w.drawn + 1 }) hR rfl rfl rfl rfl
        refine ⟨⟨h5.rep.blk, fun b bl hb => by have := h5.rep.lt b bl hb; simp only; omega, fun b hb => h5.rep.fresh b (by simp only at hb; omega), h5.rep.glob, h5.rep.inj⟩, h5.low, by simp only; omega, h5.keep, h5.own, h5.size, h5.os, h5.tape, h5.output, h5.ro⟩
      have hno : ∀ i, ¬ In (Array.replicate ops.size false) i := fun i h => by
        unfold In at h
        rw [Array.getD_eq_getD_getElem?, Array.getElem?_replicate] at h
        split at h <;> cases h
      refine drawn_go hA hB hcall hg (Nat.le_refl _) (σ0 := σ) (S0 := S) (w0 := w) (ds := a.defers) (fun σ' a' w' q1 q2 q3 q4 => hQ σ' a' w' (by rw [← eN]; exact q1) q2 q3 (by rw [← eN]; exact q4)) ops.size _ 0 σ F a _ (by simp) ?_ (fun j o _ h => absurd h (hno j)) hnt rfl ?_
      · simp only [Array.toList_replicate]
        have : ∀ k, unl (List.replicate k false) = k := fun k => by induction k with
          | zero => rfl
          | succ k ih => rw [List.replicate_succ]; simp only [unl]; rw [ih]
        rw [this]; exact Nat.le_refl _
      · refine ⟨Nat.zero_le _, fun c _ => ⟨fun h => absurd h (hno c), fun h => by omega⟩, ?_, ?_, fun i hi _ => ?_, fun i b _ h => absurd h (hno i), fun i j b b' _ _ h => absurd h (hno i), ?_, ?_⟩
        · rw [e0]; exact hE
        · rw [e0]; exact Nat.le_refl _
        · exact hR.fresh _ (by omega)
        · exact hF
        · intro t
          exact ⟨0, Nat.zero_le _, by rw [e0], fun j o _ _ => ⟨fun h => absurd h (hno j), fun h => by omega⟩⟩
    · cases hc
  · cases hc
end Go.Ev
