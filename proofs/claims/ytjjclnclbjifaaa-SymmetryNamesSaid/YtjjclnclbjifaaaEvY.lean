import Derived.Test.YtjjclnclbjifaaaEvX
namespace Go.Ev
variable {P : Program}

def exitOf : Out → Exit
  | .normal => .normal
  | .exit id => .exit id
  | .ret => .ret

/-- what is asked of code -/
def CodeSpec (P : Program) (code : AC → Act' → St → Option (Out × Act' × St)) : Prop :=
  ∀ (ro : Option Nat) (n nt : Nat) (C : Code) (c : AC), cCode P nt C = some c → ∀ (A : Act') (S : St) (o : Out) (A' : Act') (S' : St), A.ds = [] → code c A S = some (o, A', S') →
    ∀ (σ : Env) (a : Act) (w : World) (Q : Exit → Act → World → Prop), a.tmps.size = nt → a.defers = [] → FrR P σ A.F a.tmps → Rep P σ S w →
      (∀ σ' a' w', A'.ds = [] → a'.tmps.size = nt → a'.defers = [] → FrR P σ' A'.F a'.tmps → Ext P σ S w σ' S' w' → Q (exitOf o) a' w') → C.wpIn (Fw ro) n P Q a w

/-- what is asked of a region that draws its order -/
def DrawnSpec (P : Program) (call : CallF) : Prop :=
  ∀ (ro : Option Nat) (n nt id : Nat) (ops : Array Oper) (aos : List AO), cDrawn P nt ops = some (.drw aos) → ∀ (σ : Env) (F F' : Fr) (S S' : St) (a : Act) (w : World) (Q : Exit → Act → World → Prop),
    a.tmps.size = nt → FrR P σ F a.tmps → Rep P σ S w → evDrawn aos call F S = some (F', S') →
    (∀ σ' a' w', FrR P σ' F' a'.tmps → a'.tmps.size = nt → a'.defers = a.defers → Ext P σ S w σ' S' w' → Q .normal a' w') → (Code.region id ops true).wpIn (Fw ro) n P Q a w

structure Known (P : Program) (fns : T AFn) : Prop where
  asked : Asked P
  bits : BitsSound P
  fn : ∀ id fn, fns.get id = some fn → ∃ Fn, P.funcs[id]? = some Fn ∧ cFn P Fn = some fn
  drawn : ∀ call, CallSpec P call → DrawnSpec P call

def resOf (tmps : Array Value) (r : ResultVar) : Sem Value :=
  match r with
  | .tmp t => pure (tmps.getD t undef)
  | .cell a t => do loadVar t (← asAddr (tmps.getD a undef))

theorem results_sound {σ : Env} {S : St} {w : World} (hR : Rep P σ S w) {F : Fr} {tmps : Array Value} (hF : FrR P σ F tmps) : ∀ {rs : List ResultVar} {rvs : List RV} {vs : List AV}, cRes P rs = some rvs → results rvs F S.h = some vs →
    ∃ Vs, (rs.mapM (resOf tmps)).run P w = .ok Vs w ∧ Rvs P σ vs Vs
  | [], rvs, vs, hc, h => by
    simp only [cRes, Option.some.injEq] at hc
    subst hc
    simp only [results, Option.some.injEq] at h
    subst h
    exact ⟨[], rfl, Rvs_nil.2 rfl⟩
  | .tmp t :: rs, rvs, vs, hc, h => by
    simp only [cRes, Option.map_eq_some_iff] at hc
    obtain ⟨rvs', hc, rfl⟩ := hc
    simp only [results] at h
    obtain ⟨vs', h1, h2⟩ := osel_eq_some h
    cases h2
    obtain ⟨Vs, h3, h4⟩ := results_sound hR hF hc h1
    refine ⟨tmps.getD t undef :: Vs, ?_, Rvs_cons.2 ⟨_, _, rfl, hF.get t, h4⟩⟩
    have hst : (resOf tmps (.tmp t)).run P w = .ok (tmps.getD t undef) w := rfl
    rw [List.mapM_cons]
    simp only [Sem.run_bind, hst, Sem.run_pure, Result.andThen_ok, h3]
  | .cell a t :: rs, rvs, vs, hc, h => by
    simp only [cRes] at hc
    split at hc
    · rename_i agg n rvs' hag hc'
      cases hc
      simp only [results] at h
      obtain ⟨v, h0, h⟩ := osel_eq_some h
      obtain ⟨vs', h1, h2⟩ := osel_eq_some h
      cases h2
      obtain ⟨Vs, h3, h4⟩ := results_sound hR hF hc' h1
      have ha := hF.get a
      unfold resV at h0
      split at h0
      · rename_i b off hb
        rw [hb] at ha
        simp only [Rv] at ha
        obtain ⟨L, hL, ha⟩ := ha
        obtain ⟨L', V, hL', h5, h6⟩ := loadV_sound hag hR h0
        rw [hL] at hL'; cases hL'
        refine ⟨V :: Vs, ?_, Rvs_cons.2 ⟨_, _, rfl, h6, h4⟩⟩
        have hst : (resOf tmps (.cell a t)).run P w = .ok V w := by simp [resOf, ha, asAddr, h5]
        rw [List.mapM_cons]
        simp only [Sem.run_bind, hst, Sem.run_pure, Result.andThen_ok, h3]
      · cases h0
    · cases hc

theorem oneOf_sound {σ : Env} {vs : List AV} {Vs : List Value} (h : Rvs P σ vs Vs) : Rv P σ (oneOf vs) (if h : Vs.toArray.size = 1 then Vs.toArray[0] else .tuple Vs.toArray) := by
  cases vs with
  | nil =>
    rw [Rvs_nil] at h
    subst h
    simp only [oneOf, Rv]
    exact ⟨[], rfl, Rvs_nil.2 rfl⟩
  | cons v vs =>
    cases vs with
    | nil =>
      rw [Rvs_cons] at h
      obtain ⟨V, Ws, rfl, h1, h2⟩ := h
      rw [Rvs_nil] at h2
      subst h2
      simpa [oneOf] using h1
    | cons u us =>
      have hl := h.length
      rw [dif_neg (by simp; simp at hl; omega)]
      simp only [oneOf, Rv]
      exact ⟨Vs, rfl, h⟩

theorem argsIn_get : ∀ (vs : List AV) (i : Nat) (F : Fr) (t : Nat), tmpV t (argsIn vs i F) = if i ≤ t ∧ t < i + vs.length then (vs[t - i]?).getD .undef else tmpV t F
  | [], i, F, t => by rw [if_neg (by simp)]; rfl
  | v :: vs, i, F, t => by
    simp only [argsIn]
    rw [argsIn_get vs (i + 1) _ t, tmpV_set]
    by_cases h1 : t = i
    · subst h1; rw [if_neg (by omega), if_pos rfl, if_pos (by simp)]; simp
    · by_cases h2 : i + 1 ≤ t ∧ t < i + 1 + vs.length
      · rw [if_pos h2, if_pos (by simp; omega), show t - i = (t - (i + 1)) + 1 by omega]; simp
      · rw [if_neg h2, if_neg h1, if_neg (by simp; omega)]

theorem args_frame {σ : Env} {args : List AV} {Args : List Value} (h : Rvs P σ args Args) {nt : Nat} (hn : args.length ≤ nt) :
    FrR P σ (argsIn args 0 .e) ((⟨Args⟩ : Array Value) ++ Array.replicate (nt - Args.length) undef) ∧ ((⟨Args⟩ : Array Value) ++ Array.replicate (nt - Args.length) undef).size = nt := by
  have hl := h.length
  have hund : Rv P σ .undef undef := by simp only [AV.undef, undef, Rv]; exact ⟨[], rfl, Rvs_nil.2 rfl⟩
  refine ⟨⟨fun t => ?_⟩, by simp; omega⟩
  rw [argsIn_get]
  by_cases ht : t < args.length
  · rw [if_pos ⟨Nat.zero_le _, by omega⟩, Nat.sub_zero, List.getElem?_eq_getElem ht]
    obtain ⟨V, h1, h2⟩ := h.get (List.getElem?_eq_getElem ht)
    rw [Array.getD_eq_getD_getElem?, Array.getElem?_append_left (by simp; omega)]
    simp only [List.getElem?_toArray, h1, Option.getD_some]
    exact h2
  · rw [if_neg (by omega)]
    have : ((⟨Args⟩ : Array Value) ++ Array.replicate (nt - Args.length) undef).getD t undef = undef := by
      rw [Array.getD_eq_getD_getElem?, Array.getElem?_append_right (by simp; omega)]
      simp only [Array.getElem?_replicate]
      split <;> rfl
    rw [this]
    exact hund

theorem Fw_none : Fw none = Fence.wide := rfl

/-- A CALL, out of the code's contract. -/
theorem call_sound {fns : T AFn} (hK : Known P fns) {ih : Evs} (hcode : CodeSpec P ih.code) : CallSpec P (evCall fns ih) := by
  intro f args S v S' h σ w fv Args hf hargs hR
  cases f <;> simp only [evCall, reduceCtorEq] at h
  · rename_i id first cap
    obtain ⟨fn, hfn, h⟩ := osel_eq_some h
    obtain ⟨Fn, hFn, hc⟩ := hK.fn id fn hfn
    simp only [Rv] at hf
    obtain ⟨A, B, rfl, hA, hB⟩ := hf
    unfold cFn at hc
    rw [Bool.cond_eq_ite] at hc
    split at hc
    · cases hc
    · rename_i hname
      split at hc
      · rename_i C hbody
        split at hc
        · rename_i c rs hC hrs
          cases hc
          unfold callFn at h
          obtain ⟨hle, h⟩ := bsel_some h
          obtain ⟨⟨o, A', S1⟩, h1, h2⟩ := osel_eq_some h
          rw [lenL_eq, appL_eq, appL_eq] at hle
          have hle := Nat.le_of_ble_eq_true hle
          rw [appL_eq, appL_eq] at h1
          have hall : Rvs P σ (first ++ (args ++ cap)) (A ++ (Args ++ B)) := hA.append (hargs.append hB)
          have hrun : ((do let d ← Deferred.ofValue (.func (.func id) ⟨A⟩ ⟨B⟩) ⟨Args⟩; invoke d.target d.args : Sem Next)).run P w = .ok (.enter id ⟨A ++ (Args ++ B)⟩) w := by
            simp only [Deferred.ofValue, Sem.run_bind, Sem.run_pure, Result.andThen_ok, invoke, callFunc, run_program, hFn]
            rw [if_neg hname]
            simp [hbody]
          rw [hrun]
          show CallsIn Fence.wide 0 P id ⟨A ++ (Args ++ B)⟩ w _
          obtain ⟨hfr, hsz⟩ := args_frame hall (nt := Fn.ntmps) hle
          refine callsIn_of_wp hFn hbody trivial ?_
          have hsz0 : (⟨A ++ (Args ++ B)⟩ : Array Value).size = (A ++ (Args ++ B)).length := rfl
          rw [← Fw_none, hsz0]
          refine hcode none 0 Fn.ntmps C c hC ⟨argsIn (first ++ (args ++ cap)) 0 .e, []⟩ S o A' S1 rfl h1 σ _ w _ hsz rfl hfr hR ?_
          intro σ' a' w' hds hsz' hdef hfr' hext
          unfold leaveK at h2
          have hfin : (osel (runDs ih A'.ds S1) fun S2 => osel (results rs A'.F S2.h) fun vs => some (oneOf vs, S2)) = some (v, S') → a'.defers = [] ∧ ∃ v_1, (Go.results Fn a'.tmps).run P w' = .ok v_1 w' ∧ ∃ σ', Rv P σ' v v_1 ∧ Ext P σ S w σ' S' w' := by
            intro h3
            rw [hds] at h3
            obtain ⟨S2, h4, h5⟩ := osel_eq_some h3
            cases h4
            obtain ⟨vs, h6, h7⟩ := osel_eq_some h5
            cases h7
            obtain ⟨Vs, h8, h9⟩ := results_sound hext.rep hfr' hrs h6
            refine ⟨hdef, _, ?_, σ', oneOf_sound h9, hext⟩
            show ((do let vs ← Fn.results.mapM (resOf a'.tmps); pure (if h : vs.size = 1 then vs[0] else .tuple vs) : Sem Value)).run P w' = _
            rw [Array.mapM_eq_mapM_toList]
            simp only [Sem.run_bind, Sem.run_map, h8, Result.andThen_ok, Sem.run_pure]
          cases o with
          | normal => exact hfin h2
          | ret => exact hfin h2
          | exit i => cases h2
        · cases hc
      · cases hc

/-! ## The whole -/
theorem ev_succ (fns : T AFn) (n : Nat) : ev fns (n + 1) = ⟨fun c => evCode c (ev fns n), evCall fns (ev fns n)⟩ := rfl

/-- a loop, round by round -/
theorem loop_sound {fns : T AFn} {ro : Option Nat} {m nt : Nat} {C : Code} {c : AC} (hC : cCode P nt C = some c) : ∀ (n : Nat), (∀ k, k < n → CodeSpec P (ev fns k).code) →
    ∀ (A : Act') (S : St) (o : Out) (A' : Act') (S' : St), A.ds = [] → (ev fns n).code (.loop c) A S = some (o, A', S') →
    ∀ (σ : Env) (a : Act) (w : World) (Q : Exit → Act → World → Prop), a.tmps.size = nt → a.defers = [] → FrR P σ A.F a.tmps → Rep P σ S w →
      (∀ σ' a' w', A'.ds = [] → a'.tmps.size = nt → a'.defers = [] → FrR P σ' A'.F a'.tmps → Ext P σ S w σ' S' w' → Q (exitOf o) a' w') → Code.roundsIn (Fw ro) m P C Q n a w
  | 0, _, A, S, o, A', S', _, h => by cases h
  | n + 1, hk, A, S, o, A', S', hds, h => by
    intro σ a w Q hsz hdef hF hR hQ
    obtain ⟨⟨o1, A1, S1⟩, h1, h2⟩ := osel_eq_some (show (osel ((ev fns n).code c A S) (seqK (.loop c) (ev fns n))) = some (o, A', S') from h)
    show C.wpIn (Fw ro) m P (Exit.then (Code.roundsIn (Fw ro) m P C Q n) Q) a w
    refine hk n (Nat.lt_succ_self n) ro m nt C c hC A S o1 A1 S1 hds h1 σ a w _ hsz hdef hF hR ?_
    intro σ1 a1 w1 d1 s1 f1 r1 e1
    unfold seqK at h2
    cases o1 with
    | normal => exact loop_sound hC n (fun k hlt => hk k (by omega)) A1 S1 o A' S' d1 h2 σ1 a1 w1 Q s1 f1 r1 e1.rep (fun σ' a' w' q1 q2 q3 q4 q5 => hQ σ' a' w' q1 q2 q3 q4 (e1.trans q5))
    | exit i => cases h2; exact hQ σ1 a1 w1 d1 s1 f1 r1 e1
    | ret => cases h2; exact hQ σ1 a1 w1 d1 s1 f1 r1 e1

theorem code_sound {fns : T AFn} (hK : Known P fns) : ∀ n, CodeSpec P (ev fns n).code := by
  intro n
  induction n using Nat.strongRecOn with
  | _ n ihn =>
    cases n with
    | zero => intro ro m nt C c hC A S o A' S' hds h; cases h
    | succ n =>
      have ih := ihn n (Nat.lt_succ_self n)
      have hcall : CallSpec P (ev fns n).call := by
        cases n with
        | zero => intro f args S v S' h; cases h
        | succ k => exact call_sound hK (ihn k (by omega))
      intro ro m nt C c hC A S o A' S' hds h σ a w Q hsz hdef hF hR hQ
      cases C with
      | skip =>
        cases hC
        cases h
        exact wpIn_skip (hQ σ a w hds hsz hdef hF (Ext.refl hR))
      | seq x y =>
        simp only [cCode] at hC
        split at hC
        · rename_i cx cy hx hy
          cases hC
          obtain ⟨⟨o1, A1, S1⟩, h1, h2⟩ := osel_eq_some (show (osel ((ev fns n).code cx A S) (seqK cy (ev fns n))) = some (o, A', S') from h)
          refine wpIn_seq (ih ro m nt x cx hx A S o1 A1 S1 hds h1 σ a w _ hsz hdef hF hR ?_)
          intro σ1 a1 w1 d1 s1 f1 r1 e1
          unfold seqK at h2
          cases o1 with
          | normal => exact ih ro m nt y cy hy A1 S1 o A' S' d1 h2 σ1 a1 w1 Q s1 f1 r1 e1.rep (fun σ' a' w' q1 q2 q3 q4 q5 => hQ σ' a' w' q1 q2 q3 q4 (e1.trans q5))
          | exit i => cases h2; exact hQ σ1 a1 w1 d1 s1 f1 r1 e1
          | ret => cases h2; exact hQ σ1 a1 w1 d1 s1 f1 r1 e1
        · cases hC
      | cond x y z =>
        simp only [cCode] at hC
        split at hC
        · rename_i cc cy cz hx hy hz
          cases hC
          have h : condK (cc.val A.F) cy cz (ev fns n) A S = some (o, A', S') := h
          have hv := opd_sound (a := a) hF hR hx
          unfold condK at h
          split at h
          · rename_i t ht
            rw [ht] at hv
            simp only [Rv] at hv
            refine wpIn_cond hv ?_
            cases t
            · exact ih ro m nt z cz hz A S o A' S' hds h σ a w Q hsz hdef hF hR hQ
            · exact ih ro m nt y cy hy A S o A' S' hds h σ a w Q hsz hdef hF hR hQ
          · cases h
        · cases hC
      | block id x =>
        simp only [cCode, Option.map_eq_some_iff] at hC
        obtain ⟨cx, hx, rfl⟩ := hC
        obtain ⟨⟨o1, A1, S1⟩, h1, h2⟩ := osel_eq_some (show (osel ((ev fns n).code cx A S) (blockK id)) = some (o, A', S') from h)
        refine wpIn_block (ih ro m nt x cx hx A S o1 A1 S1 hds h1 σ a w _ hsz hdef hF hR ?_)
        intro σ1 a1 w1 d1 s1 f1 r1 e1
        unfold blockK at h2
        cases o1 with
        | normal => cases h2; exact hQ σ1 a1 w1 d1 s1 f1 r1 e1
        | ret => cases h2; exact hQ σ1 a1 w1 d1 s1 f1 r1 e1
        | exit i =>
          simp only at h2
          rw [bsel_eq] at h2
          show (if i = id then Q .normal a1 w1 else Q (.exit i) a1 w1)
          split at h2
          · rename_i he
            rw [Nat.beq_eq] at he
            rw [if_pos he]
            cases h2
            exact hQ σ1 a1 w1 d1 s1 f1 r1 e1
          · rename_i he
            rw [Nat.beq_eq] at he
            rw [if_neg he]
            cases h2
            exact hQ σ1 a1 w1 d1 s1 f1 r1 e1
      | loop x =>
        simp only [cCode, Option.map_eq_some_iff] at hC
        obtain ⟨cx, hx, rfl⟩ := hC
        exact wpIn_loop_rounds (n + 1) (loop_sound hx (n + 1) ihn A S o A' S' hds h σ a w Q hsz hdef hF hR hQ)
      | exit id =>
        cases hC
        cases h
        exact wpIn_exit (hQ σ a w hds hsz hdef hF (Ext.refl hR))
      | ret =>
        cases hC
        cases h
        exact wpIn_ret (hQ σ a w hds hsz hdef hF (Ext.refl hR))
      | region id ops d =>
        simp only [cCode, Bool.cond_eq_ite] at hC
        split at hC
        · rename_i hd
          subst hd
          obtain ⟨aos, rfl⟩ : ∃ aos, c = .drw aos := by
            unfold cDrawn at hC
            split at hC
            · rw [Bool.cond_eq_ite] at hC
              split at hC
              · cases hC; exact ⟨_, rfl⟩
              · cases hC
            · cases hC
          obtain ⟨⟨F1, S1⟩, h1, h2⟩ := osel_eq_some (show (osel (evDrawn aos (ev fns n).call A.F S) fun r => some (Out.normal, (⟨r.1, A.ds⟩ : Act'), r.2)) = some (o, A', S') from h)
          cases h2
          exact hK.drawn _ hcall ro m nt id ops aos hC σ A.F F1 S S1 a w Q hsz hF hR h1 (fun σ' a' w' q1 q2 q3 q4 => hQ σ' a' w' hds q2 (by rw [q3]; exact hdef) q1 q4)
        · rename_i hd
          have hd : d = false := by simpa using hd
          subst hd
          obtain ⟨aos, haos, rfl⟩ := Option.map_eq_some_iff.1 hC
          obtain ⟨⟨F1, S1⟩, h1, h2⟩ := osel_eq_some (show (osel (evOps aos (ev fns n).call A.F S) fun r => some (Out.normal, (⟨r.1, A.ds⟩ : Act'), r.2)) = some (o, A', S') from h)
          cases h2
          refine wpIn_region ?_
          rw [List.range_eq_range', ← Array.length_toList]
          exact evOps_sound hK.asked hK.bits hcall ops.toList 0 [] aos σ A.F F1 S S1 a w (fun j => by simp) haos hsz hF hR h1 (fun σ' a' w' q1 q2 q3 q4 => hQ σ' a' w' hds q2 (by rw [q3]; exact hdef) q1 q4)
      | rangeFunc f ps x y => cases hC
      | scope x => cases hC
      | label l => cases hC
      | goto l => cases hC
      | refuse s => cases hC

/-- THE EVALUATOR's WORD on a call. -/
theorem ev_sound {fns : T AFn} (hK : Known P fns) (n : Nat) : CallSpec P (ev fns n).call := by
  cases n with
  | zero => intro f args S v S' h; cases h
  | succ k => exact call_sound hK (code_sound hK k)
end Go.Ev
