import Derived.Test.YtfmgnnfghdjpfaaEvZg
namespace Go.Ev
variable {P : Program} {σ : Env} {S : St} {w : World}

/-! ## A run in stages: what is not needed any more is given up in between -/
noncomputable def pruneT : List Nat → T AB → T AB
  | [], _ => .e
  | i :: l, h => (pruneT l h).set i (h.get i)

theorem pruneT_get : ∀ {l : List Nat} {h : T AB} {b : Nat} {bl : AB}, (pruneT l h).get b = some bl → h.get b = some bl
  | [], h, b, bl, hb => by simp [pruneT, T.get_e] at hb
  | i :: l, h, b, bl, hb => by
    simp only [pruneT] at hb
    rw [T.get_set] at hb
    split at hb
    · rename_i e; subst e; exact hb
    · exact pruneT_get hb

/-- blocks are given up -/
theorem Ext.sub (h : Rep P σ S w) {h' : T AB} (key : ∀ c bl, h'.get c = some bl → S.h.get c = some bl) : Ext P σ S w σ ⟨h', S.nx⟩ w :=
  ⟨⟨fun c bl hc => h.blk c bl (key c bl hc), fun c bl hc => h.lt c bl (key c bl hc), h.fresh, h.glob, fun c c' bl1 bl2 L1 L2 h1 h2 => h.inj c c' bl1 bl2 L1 L2 (key _ _ h1) (key _ _ h2)⟩,
    fun _ _ => rfl, Nat.le_refl _, fun _ _ _ => rfl, fun r ⟨c, bl, L, h1, h2⟩ => .inl ⟨c, bl, L, key _ _ h1, h2⟩, Nat.le_refl _, rfl, rfl, rfl, fun c cs hc => key _ _ hc⟩

/-- code that is run from a state ends as R says -/
def Good (P : Program) (c : AC) (A : Act') (S : St) (R : Out → Act' → St → Prop) : Prop :=
  ∀ (ro : Option Nat) (n nt : Nat) (C : Code), cCode P nt C = some c → (A.inr = false → ro = none) →
    ∀ (lo : Nat) (σ : Env) (a : Act) (w : World) (Q : Exit → Act → World → Prop), a.tmps.size = nt → Df lo A.inr σ S w a.defers → lo ≤ w.heap.size → FrR P σ A.F a.tmps → Rep P σ S w →
      (∀ o A' S' σ' a' w', R o A' S' → A'.inr = A.inr → a'.tmps.size = nt → Df lo A.inr σ' S' w' a'.defers → FrR P σ' A'.F a'.tmps → Ext P σ S w σ' S' w' → Q (exitOf o) a' w') → C.wpIn (Fw ro) n P Q a w

theorem good_ev {fns : T AFn} (hK : Known P fns) {n : Nat} {c : AC} {A A' : Act'} {S S' : St} {o : Out} (h : (ev fns n).code c A S = some (o, A', S')) {R : Out → Act' → St → Prop} (hR : R o A' S') : Good P c A S R :=
  fun ro m nt C hC hro lo σ a w Q hsz hdf hlo hF hRep hQ => code_sound hK n ro m nt C c hC A S o A' S' hro h lo σ a w Q hsz hdf hlo hF hRep (fun σ' a' w' q1 q2 q3 q4 q5 => hQ o A' S' σ' a' w' hR q1 q2 q3 q4 q5)

theorem cCode_seq {nt : Nat} {C : Code} {x y : AC} (h : cCode P nt C = some (.seq x y)) : ∃ X Y, C = .seq X Y ∧ cCode P nt X = some x ∧ cCode P nt Y = some y := by
  cases C <;> simp only [cCode] at h
  case seq X Y =>
    split at h
    · rename_i a b ha hb
      cases h
      exact ⟨X, Y, rfl, ha, hb⟩
    · cases h
  all_goals
    exfalso
    (repeat' split at h) <;> first
      | (cases h; done)
      | (simp only [Bool.cond_eq_ite] at h
         (repeat' split at h) <;> first
          | (cases h; done)
          | (obtain ⟨_, _, h⟩ := Option.map_eq_some_iff.1 h; cases h; done)
          | (unfold cDrawn at h; split at h <;> (try rw [Bool.cond_eq_ite] at h) <;> (try split at h) <;> cases h; done))
      | (obtain ⟨_, _, h⟩ := Option.map_eq_some_iff.1 h; cases h; done)

theorem good_seq {x y : AC} {A : Act'} {S : St} {R : Out → Act' → St → Prop} (h : Good P x A S fun o A1 S1 => o = .normal ∧ A1.inr = A.inr ∧ Good P y A1 S1 R) : Good P (.seq x y) A S R := by
  intro ro m nt C hC hro lo σ a w Q hsz hdf hlo hF hRep hQ
  obtain ⟨X, Y, rfl, hX, hY⟩ := cCode_seq hC
  refine wpIn_seq (h ro m nt X hX hro lo σ a w _ hsz hdf hlo hF hRep ?_)
  rintro o A1 S1 σ1 a1 w1 ⟨rfl, i0, hy⟩ i1 s1 d1 f1 e1
  obtain ⟨F1, q1⟩ := A1
  simp only at i1
  subst i1
  exact hy ro m nt Y hY hro lo σ1 a1 w1 Q s1 d1 (Nat.le_trans hlo e1.size) f1 e1.rep (fun o A' S' σ' a' w' r q1 q2 q3 q4 q5 => hQ o A' S' σ' a' w' r q1 q2 q3 q4 (e1.trans q5))

/-- statements, one after the other -/
def isNormal (o : Out) : Bool :=
  match o with
  | .normal => true
  | _ => false
noncomputable def runL (e : Evs) : List AC → Act' → St → Option (Act' × St)
  | [], A, S => some (A, S)
  | c :: cs, A, S => osel (e.code c A S) fun r => bsel (isNormal r.1) (runL e cs r.2.1 r.2.2) none
def seqL : List AC → AC → AC
  | [], r => r
  | c :: cs, r => .seq c (seqL cs r)
/-- a stage's result: the slots, and what is kept of the state -/
noncomputable def stage (fns : T AFn) (n : Nat) (cs : List AC) (keep : List Nat) (A : Act') (S : St) : Option (Act' × St) := osel (runL (ev fns n) cs A S) fun r => some (r.1, ⟨pruneT keep r.2.h, r.2.nx⟩)

theorem good_sub {c : AC} {A : Act'} {S : St} {R : Out → Act' → St → Prop} {h' : T AB} (key : ∀ b bl, h'.get b = some bl → S.h.get b = some bl) (h : Good P c A ⟨h', S.nx⟩ R) : Good P c A S R := by
  intro ro m nt C hC hro lo σ a w Q hsz hdf hlo hF hRep hQ
  have e := Ext.sub hRep key
  exact h ro m nt C hC hro lo σ a w Q hsz (hdf.ext hRep e) hlo hF e.rep (fun o A' S' σ' a' w' r q1 q2 q3 q4 q5 => hQ o A' S' σ' a' w' r q1 q2 q3 q4 (e.trans q5))

theorem good_runL {fns : T AFn} (hK : Known P fns) {n : Nat} {y : AC} {R : Out → Act' → St → Prop} : ∀ {cs : List AC} {A A1 : Act'} {S S1 : St}, runL (ev fns n) cs A S = some (A1, S1) → (A1.inr = A.inr → Good P y A1 S1 R) → Good P (seqL cs y) A S R
  | [], A, A1, S, S1, h, hy => by cases h; exact hy rfl
  | c :: cs, A, A1, S, S1, h, hy => by
    simp only [runL] at h
    obtain ⟨⟨o, A', S'⟩, h1, h2⟩ := osel_eq_some h
    obtain ⟨h3, h4⟩ := bsel_some h2
    cases o <;> simp only [isNormal, Bool.false_eq_true] at h3
    refine good_seq ?_
    intro ro m nt C hC hro lo σ a w Q hsz hdf hlo hF hRep hQ
    refine code_sound hK n ro m nt C c hC A S _ _ _ hro h1 lo σ a w Q hsz hdf hlo hF hRep (fun σ' a' w' q1 q2 q3 q4 q5 => ?_)
    exact hQ _ _ _ σ' a' w' ⟨rfl, q1, good_runL hK h4 (fun e => hy (e.trans q1))⟩ q1 q2 q3 q4 q5

theorem good_stage {fns : T AFn} (hK : Known P fns) {n : Nat} {y : AC} {cs : List AC} {keep : List Nat} {A A1 : Act'} {S S1 : St} {R : Out → Act' → St → Prop} (h : stage fns n cs keep A S = some (A1, S1)) (hy : Good P y A1 S1 R) : Good P (seqL cs y) A S R := by
  obtain ⟨⟨A', S'⟩, h1, h2⟩ := osel_eq_some h
  cases h2
  exact good_runL hK h1 fun _ => good_sub (fun _ _ hc => pruneT_get hc) hy

/-- the end of a function that gives a bool -/
noncomputable def retB (res : List RV) (o : Out) (A : Act') (S : St) : Option Bool :=
  match o with
  | .exit _ => none
  | _ => match results res A.F S.h with
    | some [.bool b] => some b
    | _ => none

theorem retB_true {res : List RV} {o : Out} {A : Act'} {S : St} {b : Bool} (h : retB res o A S = some b) : (o = .normal ∨ o = .ret) ∧ results res A.F S.h = some [.bool b] := by
  unfold retB at h
  split at h
  · cases h
  · rename_i hne
    refine ⟨?_, ?_⟩
    · cases o with
      | normal => exact .inl rfl
      | ret => exact .inr rfl
      | exit i => exact absurd rfl (hne i)
    · split at h
      · rename_i b' hb; cases h; exact hb
      · cases h

/-- A CALL WITHOUT ARGUMENTS, in stages. -/
theorem calls_good {id nt : Nat} {res : List RV} {c : AC} {Fn : Func} {b : Bool} (hFn : P.funcs[id]? = some Fn) (hc : cFn P Fn = some ⟨nt, res, c⟩) (h : Good P c ⟨.e, false⟩ (st0 P) fun o A S => retB res o A S = some b) (w : World) :
    Calls P id #[] w fun e w' => e = .returned (.bool b) ∧ Kept w w' := by
  obtain ⟨C, c', rs, hbody, hname, hC, hrs, heq⟩ := cFn_some hc
  cases heq
  refine (callsIn_wide (n := 0)).1 (callsIn_of_wp_marks hFn hbody trivial ?_)
  obtain ⟨hfr, hsz⟩ := args_frame (P := P) (σ := env0 P) (args := []) (Args := []) (Rvs_nil.2 rfl) (nt := Fn.ntmps) (Nat.zero_le _)
  rw [← Fw_none]
  refine h none 0 Fn.ntmps C hC (fun _ => rfl) w.heap.size (env0 P) _ w _ hsz Df.nil (Nat.le_refl _) hfr (rep0 P w) ?_
  intro o A' S' σ' a' w' hret hinr hsz' hdf hfr' hext
  obtain ⟨hoo, hres⟩ := retB_true hret
  obtain ⟨_, rks, hd, hnd, hmk⟩ := hdf
  have fin : ∀ w'', Ext P (env0 P) (st0 P) w σ' S' w'' → ∃ V, (Go.results Fn a'.tmps).run P w'' = .ok V w'' ∧ (Ending.returned V = .returned (.bool b) ∧ Kept w w'') := fun w'' hx => by
    obtain ⟨Vs, h8, h9⟩ := results_sound hx.rep hfr' hrs hres
    refine ⟨if h : Vs.toArray.size = 1 then Vs.toArray[0] else .tuple Vs.toArray, ?_, ?_, hx.kept (own0 P)⟩
    · show ((do let vs ← Fn.results.mapM (resOf a'.tmps); pure (if h : vs.size = 1 then vs[0] else .tuple vs) : Sem Value)).run P w'' = _
      rw [Array.mapM_eq_mapM_toList]
      simp only [Sem.run_bind, Sem.run_map, h8, Result.andThen_ok, Sem.run_pure]
    · have := oneOf_sound h9
      simp only [oneOf, Rv] at this
      rw [this]
  rcases hoo with rfl | rfl
  · show LeavesInM Fence.wide 0 P Fn a'.tmps _ a'.defers .returning w'
    rw [hd]
    exact leaves rks w' hnd hmk hext fin
  · show LeavesInM Fence.wide 0 P Fn a'.tmps _ a'.defers .returning w'
    rw [hd]
    exact leaves rks w' hnd hmk hext fin

/-- the last stage -/
noncomputable def lastK (res : List RV) (r : Out × Act' × St) : Option Bool := retB res r.1 r.2.1 r.2.2
theorem good_last {fns : T AFn} (hK : Known P fns) {n : Nat} {c : AC} {res : List RV} {A : Act'} {S : St} {b : Bool} (h : osel ((ev fns n).code c A S) (lastK res) = some b) : Good P c A S fun o A' S' => retB res o A' S' = some b := by
  obtain ⟨⟨o, A', S'⟩, h1, h2⟩ := osel_eq_some h
  exact good_ev hK h1 h2
end Go.Ev
