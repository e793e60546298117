/- A verified evaluator of the model's code, part 6 of 7: code, calls, ranges over functions; regions that draw their order (1). -/
import Derived.Test.YtiiplmagnlcpbaaGreatDoorEv5
import Derived.RangeFuncLeaves
import Derived.OrdersIn
namespace Go.Ev
variable {P : Program}

def exitOf : Out → Exit
  | .normal => .normal
  | .exit id => .exit id
  | .ret => .ret

/-! ### the marks of ranges over functions -/
structure Mark (lo : Nat) (σ : Env) (S : St) (w : World) (r : Nat) : Prop where
  low : lo ≤ r
  lt : r < w.heap.size
  cell : w.heap[r]? = some (.deferred (some []))
  off : ∀ b bl L, S.h.get b = some bl → σ b = some L → L.r ≠ r

def markOf (r : Nat) : Deferred := { target := .collected r, args := #[] }

/-- the deferred calls of an activation are marks, and behind them D0, what was deferred before; a round has none -/
def Df (D0 : List Deferred) (lo : Nat) (inr : Bool) (σ : Env) (S : St) (w : World) (ds : List Deferred) : Prop :=
  (inr = true → ds = []) ∧ ∃ rs : List Nat, ds = rs.map markOf ++ D0 ∧ rs.Nodup ∧ ∀ r ∈ rs, Mark lo σ S w r

theorem Mark.notOwn {lo r : Nat} {σ : Env} {S : St} {w : World} (h : Mark lo σ S w r) : ¬ Own σ S r := fun ⟨b, bl, L, h1, _, h2, h3⟩ => h.off b bl L h1 h2 h3

theorem Mark.ext {lo r : Nat} {σ σ' : Env} {S S' : St} {w w' : World} (h : Mark lo σ S w r) (hR : Rep P σ S w) (e : Ext P σ S w σ' S' w') : Mark lo σ' S' w' r where
  low := h.low
  lt := Nat.lt_of_lt_of_le h.lt e.size
  cell := by rw [e.keep r h.lt h.notOwn]; exact h.cell
  off := fun b bl L hb hL hr => by
    have own : isOwn bl → False := fun ho => by
      rcases e.own r ⟨b, bl, L, hb, ho, hL, hr⟩ with h1 | h1
      · exact h.notOwn h1
      · exact absurd h.lt (by omega)
    cases bl with
    | ro cs =>
      have h1 := e.ro b cs hb
      exact h.off b _ L h1 (by rw [← e.low b (hR.lt b _ h1)]; exact hL) hr
    | _ => exact own trivial

theorem Df.ext {D0 : List Deferred} {lo : Nat} {inr : Bool} {σ σ' : Env} {S S' : St} {w w' : World} {ds : List Deferred} (h : Df D0 lo inr σ S w ds) (hR : Rep P σ S w) (e : Ext P σ S w σ' S' w') : Df D0 lo inr σ' S' w' ds := by
  obtain ⟨h0, rs, h1, h2, h3⟩ := h
  exact ⟨h0, rs, h1, h2, fun r hr => (h3 r hr).ext hR e⟩

theorem Df.nil {lo : Nat} {inr : Bool} {σ : Env} {S : St} {w : World} : Df [] lo inr σ S w [] := ⟨fun _ => rfl, [], rfl, by simp, fun r hr => by cases hr⟩

/-- what is asked of code -/
def CodeSpec (P : Program) (code : AC → Act' → St → Option (Out × Act' × St)) : Prop :=
  ∀ (ro : Option Nat) (n nt : Nat) (C : Code) (c : AC), cCode P nt C = some c → ∀ (A : Act') (S : St) (o : Out) (A' : Act') (S' : St), (A.inr = false → ro = none) → code c A S = some (o, A', S') →
    ∀ (D0 : List Deferred) (lo : Nat) (σ : Env) (a : Act) (w : World) (Q : Exit → Act → World → Prop), a.tmps.size = nt → Df D0 lo A.inr σ S w a.defers → lo ≤ w.heap.size → FrR P σ A.F a.tmps → Rep P σ S w →
      (∀ σ' a' w', A'.inr = A.inr → a'.tmps.size = nt → Df D0 lo A.inr σ' S' w' a'.defers → (noRng c = true → a'.defers = a.defers) → FrR P σ' A'.F a'.tmps → Ext P σ S w σ' S' w' → Q (exitOf o) a' w') → C.wpIn (Fw ro) n P Q a w

/-- what is asked of a region that draws its order -/
def DrawnSpec (P : Program) (call : CallF) : Prop :=
  ∀ (ro : Option Nat) (n nt id : Nat) (ops : Array Oper) (aos : List AO), cDrawn P nt ops = some (.drw aos) → ∀ (σ : Env) (F F' : Fr) (S S' : St) (a : Act) (w : World) (Q : Exit → Act → World → Prop),
    a.tmps.size = nt → FrR P σ F a.tmps → Rep P σ S w → evDrawn aos call F S = some (F', S') →
    (∀ σ' a' w', FrR P σ' F' a'.tmps → a'.tmps.size = nt → a'.defers = a.defers → Ext P σ S w σ' S' w' → Q .normal a' w') → (Code.region id ops true).wpIn (Fw ro) n P Q a w

/-- the body of a function that defers a call: what is asked of its code -/
def DBody (P : Program) (fns : T AFn) (Fn : Func) (C : Code) (c : AC) : Prop :=
  ∀ (n : Nat), (∀ k, k ≤ n → CodeSpec P (ev fns k).code ∧ CallSpec P (ev fns k).call) → ∀ (A : Act') (S : St) (o : Out) (A' : Act') (S' : St), A.inr = false → (ev fns n).code c A S = some (o, A', S') → (∀ i, o ≠ .exit i) →
    ∀ (σ0 σ : Env) (S0 : St) (w0 w : World) (a : Act) (R : Ending → World → Prop), a.tmps.size = Fn.ntmps → a.defers = [] → FrR P σ A.F a.tmps → Ext P σ0 S0 w0 σ S w → w0.heap.size ≤ w.heap.size →
      (∀ σ' tmps' w', FrR P σ' A'.F tmps' → Ext P σ0 S0 w0 σ' S' w' → ∃ V, (Go.results Fn tmps').run P w' = .ok V w' ∧ R (.returned V) w') →
      C.wpIn (Fw none) 0 P (bodyPostM Fence.wide 0 P Fn R) a w
/-- a function that defers a call, by code that calls at its end -/
def Dfrd (P : Program) (fns : T AFn) (id : Nat) (fn : AFn) : Prop :=
  ∃ Fn C rs c, P.funcs[id]? = some Fn ∧ Fn.body = some C ∧ ¬ (Fn.name == "runtime.NumGoroutine") = true ∧ cRes P Fn.results.toList = some rs ∧ fn = ⟨Fn.ntmps, rs, c⟩ ∧ DBody P fns Fn C c
/-- a function without arguments whose calls are known by other means -/
structure Faked (P : Program) (fns : T AFn) (id : Nat) (fn : AFn) : Prop where
  none : fn.ntmps = 0
  has : ∃ Fn C, P.funcs[id]? = some Fn ∧ Fn.body = some C ∧ ¬ (Fn.name == "runtime.NumGoroutine") = true
  ok : ∀ (n : Nat) (S S' : St) (v : AV), callFn fn [] (ev fns n) S = some (v, S') → ∀ (σ : Env) (w : World) (fv : Value), Rv P σ (.fn id [] []) fv → Rep P σ S w →
    NextIn P (fun V w' => ∃ σ', Rv P σ' v V ∧ Ext P σ S w σ' S' w') ((do let d ← Deferred.ofValue fv ⟨[]⟩; invoke d.target d.args : Sem Next).run P w)

structure Known (P : Program) (fns : T AFn) : Prop where
  asked : Asked P
  bits : BitsSound P
  fn : ∀ id fn, fns.get id = some fn → (∃ Fn, P.funcs[id]? = some Fn ∧ cFn P Fn = some fn) ∨ Faked P fns id fn ∨ Dfrd P fns id fn
  drawn : ∀ call, CallSpec P call → DrawnSpec P call

def resOf (tmps : Array Value) (r : ResultVar) : Sem Value :=
  match r with
  | .tmp t => pure (tmps.getD t undef)
  | .cell a t => do loadVar t (← asAddr (tmps.getD a undef))

theorem results_sound {σ : Env} {S : St} {w : World} (hR : Rep P σ S w) {F : Fr} {tmps : Array Value} (hF : FrR P σ F tmps) : ∀ {rs : List ResultVar} {rvs : List RV} {vs : List AV}, cRes P rs = some rvs → results rvs F S.h = some vs →
    ∃ Vs, (rs.mapM (resOf tmps)).run P w = .ok Vs w ∧ Rvs P σ vs Vs
  | [], rvs, vs, hc, h => by
    simp only [cRes, Option.some.injEq] at hc
    subst hc
    simp only [results, Option.some.injEq] at h
    subst h
    exact ⟨[], rfl, Rvs_nil.2 rfl⟩
  | .tmp t :: rs, rvs, vs, hc, h => by
    simp only [cRes, Option.map_eq_some_iff] at hc
    obtain ⟨rvs', hc, rfl⟩ := hc
    simp only [results] at h
    obtain ⟨vs', h1, h2⟩ := osel_eq_some h
    cases h2
    obtain ⟨Vs, h3, h4⟩ := results_sound hR hF hc h1
    refine ⟨tmps.getD t undef :: Vs, ?_, Rvs_cons.2 ⟨_, _, rfl, hF.get t, h4⟩⟩
    have hst : (resOf tmps (.tmp t)).run P w = .ok (tmps.getD t undef) w := rfl
    rw [List.mapM_cons]
    simp only [Sem.run_bind, hst, Sem.run_pure, Result.andThen_ok, h3]
  | .cell a t :: rs, rvs, vs, hc, h => by
    simp only [cRes] at hc
    split at hc
    · rename_i agg n rvs' hag hc'
      cases hc
      simp only [results] at h
      obtain ⟨v, h0, h⟩ := osel_eq_some h
      obtain ⟨vs', h1, h2⟩ := osel_eq_some h
      cases h2
      obtain ⟨Vs, h3, h4⟩ := results_sound hR hF hc' h1
      have ha := hF.get a
      unfold resV at h0
      split at h0
      · rename_i b off hb
        rw [hb] at ha
        simp only [Rv] at ha
        obtain ⟨L, hL, ha⟩ := ha
        obtain ⟨L', V, hL', h5, h6⟩ := loadV_sound hag hR h0
        rw [hL] at hL'; cases hL'
        refine ⟨V :: Vs, ?_, Rvs_cons.2 ⟨_, _, rfl, h6, h4⟩⟩
        have hst : (resOf tmps (.cell a t)).run P w = .ok V w := by simp [resOf, ha, asAddr, h5]
        rw [List.mapM_cons]
        simp only [Sem.run_bind, hst, Sem.run_pure, Result.andThen_ok, h3]
      · cases h0
    · cases hc

theorem oneOf_sound {σ : Env} {vs : List AV} {Vs : List Value} (h : Rvs P σ vs Vs) : Rv P σ (oneOf vs) (if h : Vs.toArray.size = 1 then Vs.toArray[0] else .tuple Vs.toArray) := by
  cases vs with
  | nil =>
    rw [Rvs_nil] at h
    subst h
    simp only [oneOf, Rv]
    exact ⟨[], rfl, Rvs_nil.2 rfl⟩
  | cons v vs =>
    cases vs with
    | nil =>
      rw [Rvs_cons] at h
      obtain ⟨V, Ws, rfl, h1, h2⟩ := h
      rw [Rvs_nil] at h2
      subst h2
      simpa [oneOf] using h1
    | cons u us =>
      have hl := h.length
      rw [dif_neg (by simp; simp at hl; omega)]
      simp only [oneOf, Rv]
      exact ⟨Vs, rfl, h⟩

theorem argsIn_get : ∀ (vs : List AV) (i : Nat) (F : Fr) (t : Nat), tmpV t (argsIn vs i F) = if i ≤ t ∧ t < i + vs.length then (vs[t - i]?).getD .undef else tmpV t F
  | [], i, F, t => by rw [if_neg (by simp)]; rfl
  | v :: vs, i, F, t => by
    simp only [argsIn]
    rw [argsIn_get vs (i + 1) _ t, tmpV_set]
    by_cases h1 : t = i
    · subst h1; rw [if_neg (by omega), if_pos rfl, if_pos (by simp)]; simp
    · by_cases h2 : i + 1 ≤ t ∧ t < i + 1 + vs.length
      · rw [if_pos h2, if_pos (by simp; omega), show t - i = (t - (i + 1)) + 1 by omega]; simp
      · rw [if_neg h2, if_neg h1, if_neg (by simp; omega)]

theorem args_frame {σ : Env} {args : List AV} {Args : List Value} (h : Rvs P σ args Args) {nt : Nat} (hn : args.length ≤ nt) :
    FrR P σ (argsIn args 0 .e) ((⟨Args⟩ : Array Value) ++ Array.replicate (nt - Args.length) undef) ∧ ((⟨Args⟩ : Array Value) ++ Array.replicate (nt - Args.length) undef).size = nt := by
  have hl := h.length
  have hund : Rv P σ .undef undef := by simp only [AV.undef, undef, Rv]; exact ⟨[], rfl, Rvs_nil.2 rfl⟩
  refine ⟨⟨fun t => ?_⟩, by simp; omega⟩
  rw [argsIn_get]
  by_cases ht : t < args.length
  · rw [if_pos ⟨Nat.zero_le _, by omega⟩, Nat.sub_zero, List.getElem?_eq_getElem ht]
    obtain ⟨V, h1, h2⟩ := h.get (List.getElem?_eq_getElem ht)
    rw [Array.getD_eq_getD_getElem?, Array.getElem?_append_left (by simp; omega)]
    simp only [List.getElem?_toArray, h1, Option.getD_some]
    exact h2
  · rw [if_neg (by omega)]
    have : ((⟨Args⟩ : Array Value) ++ Array.replicate (nt - Args.length) undef).getD t undef = undef := by
      rw [Array.getD_eq_getD_getElem?, Array.getElem?_append_right (by simp; omega)]
      simp only [Array.getElem?_replicate]
      split <;> rfl
    rw [this]
    exact hund

theorem Fw_none : Fw none = Fence.wide := rfl
theorem Fw_some (l : Nat) : Fw (some l) = Fence.wide.inRound l := rfl

theorem heap_set_same {w : World} {r : Nat} {o : Obj} (o' : Obj) (h : w.heap[r]? = some o) : ({ w with heap := w.heap.setIfInBounds r o' } : World).heap[r]? = some o' := by
  have := (Array.getElem?_eq_some_iff.1 h).1
  simp [this]
theorem heap_set_other {w : World} {r r' : Nat} (o' : Obj) (h : r' ≠ r) : ({ w with heap := w.heap.setIfInBounds r o' } : World).heap[r']? = w.heap[r']? := by
  simp [Ne.symm h]
theorem run_getLoop {w : World} {r : Nat} {lp : Loop} (h : w.heap[r]? = some (.loop lp)) : (Instr.getLoop r).run P w = .ok lp w := by
  simp [Instr.getLoop, run_getObj h (fun _ _ _ e => by cases e)]

/-- a block that no name stands for is written -/
theorem Ext.poke {σ0 σ : Env} {S0 S : St} {w0 w w' : World} (h : Ext P σ0 S0 w0 σ S w) {r : Nat} (hr : w0.heap.size ≤ r) (off : ∀ b bl L, S.h.get b = some bl → σ b = some L → L.r ≠ r)
    (hh : ∀ r', r' ≠ r → w'.heap[r']? = w.heap[r']?) (hsz : w'.heap.size = w.heap.size) (ho : w'.os = w.os) (ht : w'.tape = w.tape) (hu : w'.output = w.output) : Ext P σ0 S0 w0 σ S w' where
  rep := ⟨fun b bl hb => by
    obtain ⟨L, h1, h2, h3⟩ := h.rep.blk b bl hb
    exact ⟨L, h1, by omega, h3.frame (fun _ _ x => x) (hh _ (off b bl L hb h1))⟩, h.rep.lt, h.rep.fresh, h.rep.glob, h.rep.inj⟩
  low := h.low
  nx := h.nx
  keep := fun r' h1 h2 => by rw [hh r' (by omega)]; exact h.keep r' h1 h2
  own := h.own
  size := by rw [hsz]; exact h.size
  os := ho.trans h.os
  tape := ht.trans h.tape
  output := hu.trans h.output
  ro := h.ro

/-- a function is left: the marks are taken -/
theorem leaves {fn : Func} {n : Nat} {tmps : Array Value} {R : Ending → World → Prop} {σ0 σ : Env} {S0 S : St} {w0 : World} : ∀ (rs : List Nat) (w : World), rs.Nodup → (∀ r ∈ rs, Mark w0.heap.size σ S w r) → Ext P σ0 S0 w0 σ S w →
    (∀ w', Ext P σ0 S0 w0 σ S w' → ∃ v, (Go.results fn tmps).run P w' = .ok v w' ∧ R (.returned v) w') → LeavesInM Fence.wide n P fn tmps R (rs.map markOf) .returning w
  | [], w, _, _, he, hQ => hQ w he
  | r :: rs, w, hn, hm, he, hQ => by
    have hr := hm r (by simp)
    rw [List.nodup_cons] at hn
    refine ⟨by simp, .inl ⟨r, { w with heap := w.heap.setIfInBounds r (.deferred none) }, rfl, ?_, ?_⟩⟩
    · simp only [Instr.takeDeferred, Sem.run_bind, run_getObj hr.cell (fun _ _ _ e => by cases e), Result.andThen_ok, run_setObj hr.cell (fun _ _ _ e => by cases e), Sem.run_pure]
    · refine leaves rs _ hn.2 (fun r' hr' => ?_) (he.poke hr.low hr.off (fun r' h => heap_set_other _ h) (by simp) rfl rfl rfl) hQ
      have h1 := hm r' (by simp [hr'])
      have hne : r' ≠ r := fun e => hn.1 (e ▸ hr')
      exact ⟨h1.low, by simpa using h1.lt, by rw [heap_set_other _ hne]; exact h1.cell, h1.off⟩

theorem run_invoke_func {id : Nat} {Fn : Func} {C : Code} {A B Args : List Value} {w : World} (hFn : P.funcs[id]? = some Fn) (hbody : Fn.body = some C) (hname : ¬ (Fn.name == "runtime.NumGoroutine") = true) :
    ((do let d ← Deferred.ofValue (.func (.func id) ⟨A⟩ ⟨B⟩) ⟨Args⟩; invoke d.target d.args : Sem Next)).run P w = .ok (.enter id ⟨A ++ (Args ++ B)⟩) w := by
  simp only [Deferred.ofValue, Sem.run_bind, Sem.run_pure, Result.andThen_ok, invoke, callFunc, run_program, hFn]
  rw [if_neg hname]
  simp [hbody]

theorem cFn_some {Fn : Func} {fn : AFn} (hc : cFn P Fn = some fn) : ∃ C c rs, Fn.body = some C ∧ ¬ (Fn.name == "runtime.NumGoroutine") = true ∧ cCode P Fn.ntmps C = some c ∧ cRes P Fn.results.toList = some rs ∧ fn = ⟨Fn.ntmps, rs, c⟩ := by
  unfold cFn at hc
  rw [Bool.cond_eq_ite] at hc
  split at hc
  · cases hc
  · rename_i hname
    split at hc
    · rename_i C hbody
      split at hc
      · rename_i c rs hC hrs
        cases hc
        exact ⟨C, c, rs, hbody, hname, hC, hrs, rfl⟩
      · cases hc
    · cases hc

theorem paramsIn_sound {σ : Env} : ∀ {ps : List Nat} {args : List AV} {Args : List Value} {F F' : Fr} {tmps : Array Value}, paramsIn ps args F = some F' → Rvs P σ args Args → FrR P σ F tmps → (∀ p ∈ ps, p < tmps.size) →
    args.length = ps.length ∧ FrR P σ F' ((ps.zip Args).foldl (fun tmps (t, a) => tmps.setIfInBounds t a) tmps) ∧ ((ps.zip Args).foldl (fun tmps (t, a) => tmps.setIfInBounds t a) tmps).size = tmps.size
  | [], [], Args, F, F', tmps, h, ha, hF, _ => by
    simp only [paramsIn, Option.some.injEq] at h
    subst h
    exact ⟨rfl, by simpa using hF, by simp⟩
  | [], _ :: _, Args, F, F', tmps, h, ha, hF, _ => by simp [paramsIn] at h
  | _ :: _, [], Args, F, F', tmps, h, ha, hF, _ => by simp [paramsIn] at h
  | p :: ps, v :: vs, Args, F, F', tmps, h, ha, hF, hp => by
    rw [Rvs_cons] at ha
    obtain ⟨V, Ws, rfl, hv, ha⟩ := ha
    simp only [paramsIn] at h
    have hlt := hp p (by simp)
    have hF1 : FrR P σ (F.set p (some v)) (tmps.setIfInBounds p V) := ⟨fun t => by
      rw [tmpV_set]
      by_cases ht : t = p
      · subst ht; rw [if_pos rfl, Array.getD_eq_getD_getElem?, Array.getElem?_setIfInBounds_self_of_lt hlt]; exact hv
      · rw [if_neg ht, Array.getD_eq_getD_getElem?, Array.getElem?_setIfInBounds_ne (Ne.symm ht), ← Array.getD_eq_getD_getElem?]; exact hF.get t⟩
    obtain ⟨h1, h2, h3⟩ := paramsIn_sound h ha hF1 (fun q hq => by simpa using hp q (by simp [hq]))
    exact ⟨by simp [h1], by simpa using h2, by simpa using h3⟩

/-- ONE ROUND of a range over a function. -/
theorem round_sound {ih : Evs} (hcode : CodeSpec P ih.code) {bl : AB} {b : Nat} {args : List AV} {S S' : St} {v : AV} (hb : S.h.get b = some bl) (h : roundB bl b args ih S = some (v, S')) {σ : Env} {w : World} {L : Loc} {Args : List Value}
    (hL : σ b = some L) (hargs : Rvs P σ args Args) (hR : Rep P σ S w) :
    NextIn P (fun V w' => ∃ σ', Rv P σ' v V ∧ Ext P σ S w σ' S' w') ((Instr.yield L.r ⟨Args⟩).run P w) := by
  cases bl <;> simp only [roundB, reduceCtorEq] at h
  rename_i st pend fr ps as bd
  cases st <;> simp only [reduceCtorEq] at h
  obtain ⟨F, hF, h⟩ := osel_eq_some h
  obtain ⟨⟨o1, A1, S1⟩, h1, h⟩ := osel_eq_some h
  obtain ⟨L', hL', hlt, lp, hlp, hst, hpend, hfr, hps, has, hbd, hpb⟩ := hR.blk b _ hb
  rw [hL] at hL'; cases hL'
  obtain ⟨hlen, hfr', hsz⟩ := paramsIn_sound hF hargs hfr hpb
  have hAl := hargs.length
  have hpl : lp.params.size = ps.length := by rw [← hps]; simp
  have hrun : (Instr.yield L.r ⟨Args⟩).run P w = .ok (.round L.r lp.fn ((ps.zip Args).foldl (fun tmps (t, a) => tmps.setIfInBounds t a) lp.tmps) lp.assign lp.body) w := by
    have hsz' : (⟨Args⟩ : Array Value).size = lp.params.size := by simp; omega
    have hfold : (lp.params.zip ⟨Args⟩).foldl (fun tmps (t, a) => tmps.setIfInBounds t a) lp.tmps = (ps.zip Args).foldl (fun tmps (t, a) => tmps.setIfInBounds t a) lp.tmps := by
      rw [← Array.foldl_toList, Array.toList_zip, hps]
    simp only [Instr.yield, Sem.run_bind, run_getLoop hlp, Result.andThen_ok, hsz', ne_eq, not_true_eq_false, if_false, Sem.run_pure, hfold]
  rw [hrun]
  show RoundIn Fence.wide 0 P L.r lp.fn _ lp.assign lp.body w _
  refine roundIn_of_wpIn trivial ?_
  rw [← Fw_some]
  refine hcode (some L.r) 0 lp.tmps.size lp.assign as has ⟨F, true⟩ S o1 A1 S1 (fun h => by cases h) h1 [] w.heap.size σ { tmps := (ps.zip Args).foldl (fun tmps (t, a) => tmps.setIfInBounds t a) lp.tmps, defers := [] } w _ hsz Df.nil (Nat.le_refl _) hfr' hR ?_
  intro σ1 a1 w1 i1 s1 d1 _ f1 e1
  cases o1 <;> simp only [assignK, reduceCtorEq] at h
  obtain ⟨bl1, hb1, h⟩ := osel_eq_some h
  cases bl1 <;> simp only [beginRoundB, reduceCtorEq] at h
  rename_i st1 pend1 fr1 ps1 as1 bd1
  cases st1 <;> simp only [reduceCtorEq] at h
  obtain ⟨⟨o2, A2, S2⟩, h2, h⟩ := osel_eq_some h
  obtain ⟨bl2, hb2, h⟩ := osel_eq_some h
  obtain ⟨L1, hL1, hlt1, lp1, hlp1, hst1, hpend1, hfr1, hps1, has1, hbd1, hpb1⟩ := e1.rep.blk b _ hb1
  have := e1.mono hR b L hL
  rw [this] at hL1; cases hL1
  have hbeg : (Instr.beginRound L.r).run P w1 = .ok () { w1 with heap := w1.heap.setIfInBounds L.r (.loop { lp1 with state := .busy }) } := by
    simp only [Instr.beginRound, Sem.run_bind, run_getLoop hlp1, Result.andThen_ok, run_setObj hlp1 (fun _ _ _ e => by cases e), hst1, lstOf, Sem.run_pure]
  refine ⟨_, hbeg, ?_⟩
  have e2 : Ext P σ1 S1 w1 σ1 ⟨S1.h.set b (some (.loop .busy pend1 fr1 ps1 as1 bd1)), S1.nx⟩ { w1 with heap := w1.heap.setIfInBounds L.r (.loop { lp1 with state := .busy }) } :=
    Ext.write e1.rep hb1 trivial trivial this (fun r hr => heap_set_other _ hr) (by simp) rfl rfl rfl ⟨_, heap_set_same _ hlp1, rfl, hpend1, hfr1, hps1, has1, hbd1, hpb1⟩
  have i1' : A1.inr = true := i1
  have h2' : ih.code bd A1 ⟨S1.h.set b (some (.loop .busy pend1 fr1 ps1 as1 bd1)), S1.nx⟩ = some (o2, A2, S2) := h2
  have d1' : Df [] w.heap.size A1.inr σ1 S1 w1 a1.defers := by rw [i1]; exact d1
  refine hcode (some L.r) 0 lp.tmps.size lp.body bd hbd A1 _ o2 A2 S2 (fun h => by rw [i1'] at h; cases h) h2' [] w.heap.size σ1 a1 _ _ s1 (d1'.ext e1.rep e2) (by have := e1.size; simpa using this) f1 e2.rep ?_
  intro σ2 a2 w2 i2 s2 d2 _ f2 e3
  cases bl2 <;> simp only [endRoundB, reduceCtorEq] at h
  rename_i st2 pend2 fr2 ps2 as2 bd2
  cases st2 <;> simp only [reduceCtorEq] at h
  obtain ⟨L2, hL2, hlt2, lp2, hlp2, hst2, hpend2, hfr2, hps2, has2, hbd2, hpb2⟩ := e3.rep.blk b _ hb2
  have hL2' := e3.mono e2.rep b L this
  rw [hL2'] at hL2; cases hL2
  have fin : ∀ (p : Option Out) (st : LSt) (j : Option Code) (bb : Bool), lstOf st = (if j.isNone then .ready else .done) → p.bind codeOf = j → bb = j.isNone → v = .bool bb →
      S' = ⟨S2.h.set b (some (.loop st p fr2 ps2 as2 bd2)), S2.nx⟩ → ∃ V w', (Instr.endRound L.r j).run P w2 = .ok V w' ∧ ∃ σ', Rv P σ' v V ∧ Ext P σ S w σ' S' w' := by
    intro p st j bb e1' e2' e3' e4' e5'
    have hend : (Instr.endRound L.r j).run P w2 = .ok (.bool j.isNone) { w2 with heap := w2.heap.setIfInBounds L.r (.loop { lp2 with state := if j.isNone then .ready else .done, pending := j }) } := by
      simp only [Instr.endRound, Sem.run_bind, run_getLoop hlp2, Result.andThen_ok, run_setObj hlp2 (fun _ _ _ e => by cases e), Sem.run_pure]
    refine ⟨_, _, hend, σ2, by rw [e4', e3']; simp only [Rv], ?_⟩
    rw [e5']
    exact e1.trans (e2.trans (e3.trans (Ext.write e3.rep hb2 trivial trivial hL2' (fun r hr => heap_set_other _ hr) (by simp) rfl rfl rfl ⟨_, heap_set_same _ hlp2, e1'.symm, e2'.symm, hfr2, hps2, has2, hbd2, hpb2⟩)))
  cases o2 with
  | normal => cases h; exact fin none .ready none true rfl rfl rfl rfl rfl
  | ret => cases h; exact fin (some .ret) .done (some .ret) false rfl rfl rfl rfl rfl
  | exit id => cases h; exact fin (some (.exit id)) .done (some (.exit id)) false rfl rfl rfl rfl rfl

/-- A CALL, out of the code's contract. -/
theorem call_sound {fns : T AFn} (hK : Known P fns) {n : Nat} (hs : ∀ k, k ≤ n → CodeSpec P (ev fns k).code ∧ CallSpec P (ev fns k).call) : CallSpec P (evCall fns (ev fns n)) := by
  have hcode := (hs n (Nat.le_refl n)).1
  intro f args S v S' h σ w fv Args hf hargs hR
  cases f <;> simp only [evCall, reduceCtorEq] at h
  · rename_i id first cap
    obtain ⟨fn, hfn, h⟩ := osel_eq_some h
    rcases hK.fn id fn hfn with ⟨Fn, hFn, hc⟩ | hfk | hdf
    case inr.inl =>
      obtain ⟨hle, _⟩ := bsel_some (show bsel (Nat.ble (lenL (appL first (appL args cap))) fn.ntmps) _ _ = _ from h)
      rw [hfk.none, lenL_eq, appL_eq, appL_eq] at hle
      have hz := Nat.le_of_ble_eq_true hle
      simp only [List.length_append] at hz
      have h1 : first = [] := List.length_eq_zero_iff.1 (by omega)
      have h2 : args = [] := List.length_eq_zero_iff.1 (by omega)
      have h3 : cap = [] := List.length_eq_zero_iff.1 (by omega)
      subst h1; subst h2; subst h3
      have hA := Rvs_nil.1 hargs
      subst hA
      exact hfk.ok n S S' v h σ w fv hf hR
    case inr.inr =>
      obtain ⟨Fn, C, rs, c, hFn, hbody, hname, hrs, rfl, hD⟩ := hdf
      simp only [Rv] at hf
      obtain ⟨A, B, rfl, hA, hB⟩ := hf
      unfold callFn at h
      obtain ⟨hle, h⟩ := bsel_some h
      obtain ⟨⟨o, A', S1⟩, h1, h2⟩ := osel_eq_some h
      rw [lenL_eq, appL_eq, appL_eq] at hle
      have hle := Nat.le_of_ble_eq_true hle
      rw [appL_eq, appL_eq] at h1
      have hall : Rvs P σ (first ++ (args ++ cap)) (A ++ (Args ++ B)) := hA.append (hargs.append hB)
      rw [run_invoke_func hFn hbody hname]
      show CallsIn Fence.wide 0 P id ⟨A ++ (Args ++ B)⟩ w _
      obtain ⟨hfr, hsz⟩ := args_frame hall (nt := Fn.ntmps) hle
      refine callsIn_of_wp_marks hFn hbody trivial ?_
      have hsz0 : (⟨A ++ (Args ++ B)⟩ : Array Value).size = (A ++ (Args ++ B)).length := rfl
      rw [← Fw_none, hsz0]
      unfold leaveK at h2
      obtain ⟨vs, h6, h7⟩ : ∃ vs, results rs A'.F S1.h = some vs ∧ some (oneOf vs, S1) = some (v, S') := by
        cases o with
        | normal => exact osel_eq_some h2
        | ret => exact osel_eq_some h2
        | exit i => cases h2
      cases h7
      refine hD n hs ⟨argsIn (first ++ (args ++ cap)) 0 .e, false⟩ S o A' _ rfl h1 (fun i e => by subst e; cases h2) σ σ S w w _ _ hsz rfl hfr (Ext.refl hR) (Nat.le_refl _) ?_
      intro σ' tmps' w' hfr' hx
      obtain ⟨Vs, h8, h9⟩ := results_sound hx.rep hfr' hrs h6
      refine ⟨_, ?_, σ', oneOf_sound h9, hx⟩
      show ((do let vs ← Fn.results.mapM (resOf tmps'); pure (if h : vs.size = 1 then vs[0] else .tuple vs) : Sem Value)).run P w' = _
      rw [Array.mapM_eq_mapM_toList]
      simp only [Sem.run_bind, Sem.run_map, h8, Result.andThen_ok, Sem.run_pure]
    simp only [Rv] at hf
    obtain ⟨A, B, rfl, hA, hB⟩ := hf
    obtain ⟨C, c, rs, hbody, hname, hC, hrs, rfl⟩ := cFn_some hc
    unfold callFn at h
    obtain ⟨hle, h⟩ := bsel_some h
    obtain ⟨⟨o, A', S1⟩, h1, h2⟩ := osel_eq_some h
    rw [lenL_eq, appL_eq, appL_eq] at hle
    have hle := Nat.le_of_ble_eq_true hle
    rw [appL_eq, appL_eq] at h1
    have hall : Rvs P σ (first ++ (args ++ cap)) (A ++ (Args ++ B)) := hA.append (hargs.append hB)
    rw [run_invoke_func hFn hbody hname]
    show CallsIn Fence.wide 0 P id ⟨A ++ (Args ++ B)⟩ w _
    obtain ⟨hfr, hsz⟩ := args_frame hall (nt := Fn.ntmps) hle
    refine callsIn_of_wp_marks hFn hbody trivial ?_
    have hsz0 : (⟨A ++ (Args ++ B)⟩ : Array Value).size = (A ++ (Args ++ B)).length := rfl
    rw [← Fw_none, hsz0]
    refine hcode none 0 Fn.ntmps C c hC ⟨argsIn (first ++ (args ++ cap)) 0 .e, false⟩ S o A' S1 (fun _ => rfl) h1 [] w.heap.size σ _ w _ hsz Df.nil (Nat.le_refl _) hfr hR ?_
    intro σ' a' w' hinr hsz' hdf _ hfr' hext
    obtain ⟨_, rks, hd, hnd, hmk⟩ := hdf
    rw [List.append_nil] at hd
    unfold leaveK at h2
    obtain ⟨vs, h6, h7⟩ : ∃ vs, results rs A'.F S1.h = some vs ∧ some (oneOf vs, S1) = some (v, S') := by
      cases o with
      | normal => exact osel_eq_some h2
      | ret => exact osel_eq_some h2
      | exit i => cases h2
    cases h7
    have fin : ∀ w'', Ext P σ S w σ' S' w'' → ∃ V, (Go.results Fn a'.tmps).run P w'' = .ok V w'' ∧ ∃ σ', Rv P σ' (oneOf vs) V ∧ Ext P σ S w σ' S' w'' := fun w'' hx => by
      obtain ⟨Vs, h8, h9⟩ := results_sound hx.rep hfr' hrs h6
      refine ⟨_, ?_, σ', oneOf_sound h9, hx⟩
      show ((do let vs ← Fn.results.mapM (resOf a'.tmps); pure (if h : vs.size = 1 then vs[0] else .tuple vs) : Sem Value)).run P w'' = _
      rw [Array.mapM_eq_mapM_toList]
      simp only [Sem.run_bind, Sem.run_map, h8, Result.andThen_ok, Sem.run_pure]
    cases o with
    | normal =>
      show LeavesInM Fence.wide 0 P Fn a'.tmps _ a'.defers .returning w'
      rw [hd]
      exact leaves rks w' hnd hmk hext fin
    | ret =>
      show LeavesInM Fence.wide 0 P Fn a'.tmps _ a'.defers .returning w'
      rw [hd]
      exact leaves rks w' hnd hmk hext fin
    | exit i => cases h2
  · rename_i b
    obtain ⟨bl, hb, h⟩ := osel_eq_some h
    simp only [Rv] at hf
    obtain ⟨L, hL, rfl⟩ := hf
    have hrun : ((do let d ← Deferred.ofValue (.func (.yield L.r) #[] #[]) ⟨Args⟩; invoke d.target d.args : Sem Next)).run P w = (Instr.yield L.r ⟨Args⟩).run P w := by
      simp [Deferred.ofValue, invoke]
    rw [hrun]
    exact round_sound hcode hb h hL hargs hR

/-! ## The whole -/
theorem ev_succ (fns : T AFn) (n : Nat) : ev fns (n + 1) = ⟨fun c => evCode c (ev fns n), evCall fns (ev fns n)⟩ := rfl

/-- a loop, round by round -/
theorem loop_sound {fns : T AFn} {ro : Option Nat} {m nt : Nat} {C : Code} {c : AC} (hC : cCode P nt C = some c) : ∀ (n : Nat), (∀ k, k < n → CodeSpec P (ev fns k).code) →
    ∀ (A : Act') (S : St) (o : Out) (A' : Act') (S' : St), (A.inr = false → ro = none) → (ev fns n).code (.loop c) A S = some (o, A', S') →
    ∀ (D0 : List Deferred) (lo : Nat) (σ : Env) (a : Act) (w : World) (Q : Exit → Act → World → Prop), a.tmps.size = nt → Df D0 lo A.inr σ S w a.defers → lo ≤ w.heap.size → FrR P σ A.F a.tmps → Rep P σ S w →
      (∀ σ' a' w', A'.inr = A.inr → a'.tmps.size = nt → Df D0 lo A.inr σ' S' w' a'.defers → (noRng c = true → a'.defers = a.defers) → FrR P σ' A'.F a'.tmps → Ext P σ S w σ' S' w' → Q (exitOf o) a' w') → Code.roundsIn (Fw ro) m P C Q n a w
  | 0, _, A, S, o, A', S', _, h => by cases h
  | n + 1, hk, A, S, o, A', S', hds, h => by
    intro D0 lo σ a w Q hsz hdef hlo hF hR hQ
    obtain ⟨⟨o1, A1, S1⟩, h1, h2⟩ := osel_eq_some (show (osel ((ev fns n).code c A S) (seqK (.loop c) (ev fns n))) = some (o, A', S') from h)
    show C.wpIn (Fw ro) m P (Exit.then (Code.roundsIn (Fw ro) m P C Q n) Q) a w
    refine hk n (Nat.lt_succ_self n) ro m nt C c hC A S o1 A1 S1 hds h1 D0 lo σ a w _ hsz hdef hlo hF hR ?_
    intro σ1 a1 w1 i1 s1 d1 k1 f1 e1
    obtain ⟨F1, q1⟩ := A1
    simp only at i1
    subst i1
    have l1 := Nat.le_trans hlo e1.size
    unfold seqK at h2
    cases o1 with
    | normal => exact loop_sound hC n (fun k hlt => hk k (by omega)) ⟨F1, A.inr⟩ S1 o A' S' hds h2 D0 lo σ1 a1 w1 Q s1 d1 l1 f1 e1.rep (fun σ' a' w' q1 q2 q3 qk q4 q5 => hQ σ' a' w' q1 q2 q3 (fun hr => (qk hr).trans (k1 hr)) q4 (e1.trans q5))
    | exit i => cases h2; exact hQ σ1 a1 w1 rfl s1 d1 k1 f1 e1
    | ret => cases h2; exact hQ σ1 a1 w1 rfl s1 d1 k1 f1 e1

/-- THE STATEMENT 'for .. := range f'. -/
theorem rng_sound {fns : T AFn} (hK : Known P fns) {n : Nat} (ih : CodeSpec P (ev fns n).code) (hcall : CallSpec P (ev fns n).call) (_ : ∀ k, n = k + 1 → CodeSpec P (ev fns k).code) {ro : Option Nat} {m nt : Nat}
    {f : Operand} {ps : Array Tmp} {x y : Code} {cf : Opd} {cx cy : AC} (hf : cOpd P f = some cf) (hx : cCode P nt x = some cx) (hy : cCode P nt y = some cy) (hps : ps.toList.all (fun p => Nat.blt p nt) = true)
    {A A' : Act'} {S S' : St} {o : Out} (hro : A.inr = false → ro = none) (h : (ev fns (n + 1)).code (.rng cf ps.toList cx cy) A S = some (o, A', S'))
    {D0 : List Deferred} {lo : Nat} {σ : Env} {a : Act} {w : World} {Q : Exit → Act → World → Prop} (hsz : a.tmps.size = nt) (hdef : Df D0 lo A.inr σ S w a.defers) (hlo : lo ≤ w.heap.size) (hF : FrR P σ A.F a.tmps) (hR : Rep P σ S w)
    (hQ : ∀ σ' a' w', A'.inr = A.inr → a'.tmps.size = nt → Df D0 lo A.inr σ' S' w' a'.defers → FrR P σ' A'.F a'.tmps → Ext P σ S w σ' S' w' → Q (exitOf o) a' w') : (Code.rangeFunc f ps x y).wpIn (Fw ro) m P Q a w := by
  have h : bsel A.inr none (bsel (isFn (cf.val A.F))
    (osel ((ev fns n).call (cf.val A.F) [.yld S.nx] ⟨S.h.set S.nx (some (.loop .ready none A.F ps.toList cx cy)), Nat.succ S.nx⟩) fun r =>
      osel (r.2.h.get S.nx) fun bl => rngEnd bl S.nx A r.2 (ev fns n)) none) = some (o, A', S') := h
  cases hinr : A.inr with
  | true => rw [hinr, bsel_true] at h; cases h
  | false =>
    rw [hinr, bsel_false] at h
    have := hro hinr
    subst this
    obtain ⟨hfn, h⟩ := bsel_some h
    obtain ⟨⟨v1, S1⟩, h1, h⟩ := osel_eq_some h
    obtain ⟨bl, hbl, h⟩ := osel_eq_some h
    simp only at hbl h
    have hfv := opd_sound (a := a) hF hR hf
    cases hcf : cf.val A.F <;> rw [hcf] at hfn <;> simp only [isFn, Bool.false_eq_true] at hfn
    rename_i id first cap
    rw [hcf] at hfv h1
    have hfv' := hfv
    simp only [Rv] at hfv
    obtain ⟨FA, FB, hev, hA, hB⟩ := hfv
    -- the function that is ranged over
    have hent : ∃ Fn C, P.funcs[id]? = some Fn ∧ Fn.body = some C ∧ ¬ (Fn.name == "runtime.NumGoroutine") = true := by
      cases n with
      | zero => cases h1
      | succ k =>
        have h1' : evCall fns (ev fns k) (.fn id first cap) [.yld S.nx] _ = some (v1, S1) := h1
        simp only [evCall] at h1'
        obtain ⟨fn, hfn', _⟩ := osel_eq_some h1'
        rcases hK.fn id fn hfn' with ⟨Fn, hFn, hc⟩ | hfk | ⟨Fn, C, _, _, hFn, hbody, hname, _⟩
        · obtain ⟨C, c, rs, hbody, hname, _⟩ := cFn_some hc
          exact ⟨Fn, C, hFn, hbody, hname⟩
        · exact hfk.has
        · exact ⟨Fn, C, hFn, hbody, hname⟩
    obtain ⟨Fn, C, hFn, hbody, hname⟩ := hent
    rw [Fw_none]
    refine wpIn_rangeFunc fun fnid _ => ?_
    -- the world with the mark's block
    have ep : Ext P σ S w σ S (w.alloc (.deferred (some []))) := by
      have hpush : ∀ r, r < w.heap.size → (w.alloc (.deferred (some []))).heap[r]? = w.heap[r]? := fun r hr => by
        show (w.heap.push _)[r]? = _
        rw [Array.getElem?_push, if_neg (by omega)]
      have hsize : (w.alloc (.deferred (some []))).heap.size = w.heap.size + 1 := by show (w.heap.push _).size = _; simp
      exact ⟨⟨fun b bl hb => by
        obtain ⟨L, q1, q2, q3⟩ := hR.blk b bl hb
        exact ⟨L, q1, by omega, q3.frame (fun _ _ x => x) (hpush _ q2)⟩, hR.lt, hR.fresh, hR.glob, hR.inj⟩, fun _ _ => rfl, Nat.le_refl _, fun r hr _ => hpush r hr, fun _ ho => .inl ho, by omega, rfl, rfl, rfl, fun _ _ hb => hb⟩
    have hsize1 : (w.alloc (.deferred (some []))).heap.size = w.heap.size + 1 := by show (w.heap.push _).size = _; simp
    have hmk : Mark lo σ S (w.alloc (.deferred (some []))) w.heap.size := by
      refine ⟨hlo, by omega, ?_, fun b bl L hb hL he => ?_⟩
      · show (w.heap.push _)[w.heap.size]? = _
        simp
      · obtain ⟨L', q1, q2, _⟩ := hR.blk b bl hb
        rw [hL] at q1; cases q1
        omega
    let lp : Loop := { state := .ready, pending := none, fn := fnid, tmps := a.tmps, params := ps, assign := x, body := y, defers := w.heap.size }
    have ea : Ext P σ S (w.alloc (.deferred (some []))) (upd σ S.nx ⟨w.heap.size + 1, 0, 0⟩) ⟨S.h.set S.nx (some (.loop .ready none A.F ps.toList cx cy)), Nat.succ S.nx⟩ ((w.alloc (.deferred (some []))).alloc (.loop lp)) := by
      have := Ext.alloc (P := P) (bl := .loop .ready none A.F ps.toList cx cy) (e := 0) (ob := .loop lp) ep.rep (w' := (w.alloc (.deferred (some []))).alloc (.loop lp)) rfl rfl rfl rfl
      rw [hsize1] at this
      refine this ?_ trivial
      refine ⟨lp, ?_, rfl, rfl, hF.mono (upd_mono (hR.fresh _ (Nat.le_refl _))), rfl, by rw [← hsz] at hx; exact hx, by rw [← hsz] at hy; exact hy, fun p hp => ?_⟩
      · show ((w.alloc (.deferred (some []))).heap.push (.loop lp))[w.heap.size + 1]? = some (.loop lp)
        rw [← hsize1, Array.getElem?_push_size]
      · have := List.all_eq_true.1 hps p hp
        have := Nat.le_of_ble_eq_true (show Nat.ble (p + 1) nt = true from this)
        show p < a.tmps.size
        omega
    have hsl : upd σ S.nx ⟨w.heap.size + 1, 0, 0⟩ S.nx = some ⟨w.heap.size + 1, 0, 0⟩ := upd_same _ _
    have e2 := ep.trans ea
    have hnext := hcall (.fn id first cap) [.yld S.nx] _ v1 S1 h1 _ _ (.func (.func id) ⟨FA⟩ ⟨FB⟩) [.func (.yield (w.heap.size + 1)) #[] #[]]
      (by rw [hev] at hfv'; exact hfv'.mono (e2.mono hR)) (Rvs_cons.2 ⟨_, _, rfl, by simp only [Rv]; exact ⟨_, hsl, rfl⟩, Rvs_nil.2 rfl⟩) e2.rep
    rw [run_invoke_func hFn hbody hname] at hnext
    have hnext : CallsIn Fence.wide 0 P id _ _ _ := hnext
    refine ⟨w.heap.size + 1, [markOf w.heap.size], (w.alloc (.deferred (some []))).alloc (.loop lp), { target := .fn (.func id) ⟨FB⟩, args := ⟨FA⟩ ++ #[.func (.yield (w.heap.size + 1)) #[] #[]] }, (w.alloc (.deferred (some []))).alloc (.loop lp), id,
      ⟨FA ++ ([.func (.yield (w.heap.size + 1)) #[] #[]] ++ FB)⟩, (w.alloc (.deferred (some []))).alloc (.loop lp), ?_, ?_, fun _ _ => trivial, ?_, fun hd => by simp [Fence.wide] at hd, ?_⟩
    · have n1 : ∀ (o : Obj) (w : World), (newObj o).run P w = .ok w.heap.size (w.alloc o) := fun _ _ => rfl
      simp only [Instr.enterLoop, Fence.wide, Sem.run_bind, n1, Result.andThen_ok, Sem.run_pure, hsize1]
      rfl
    · show (Deferred.ofValue (a.eval f) _).run P _ = _
      rw [hev]
      simp [Deferred.ofValue, rangeCall, Act.eval]
    · have := run_invoke_func (P := P) (A := FA) (B := FB) (Args := [.func (.yield (w.heap.size + 1)) #[] #[]]) (w := (w.alloc (.deferred (some []))).alloc (.loop lp)) hFn hbody hname
      simpa [Deferred.ofValue] using this
    · refine callsIn_any (ro := none) (CallsIn.mono hnext fun e w3 he => ?_)
      cases e with
      | returned V =>
        obtain ⟨σ3, _, e3⟩ := he
        have e13 := e2.trans e3
        unfold rngEnd at h
        split at h
        · rename_i st pend fr ps' as bd
          obtain ⟨L, hL, hlt, lp3, hlp3, hst, hpend, hfr, hps3, has, hbd, hpb⟩ := e3.rep.blk S.nx _ hbl
          have hL' := e3.mono e2.rep _ _ hsl
          rw [hL'] at hL; cases hL
          have hnb : (lp3.state == .busy) = false := by
            rw [hst]
            cases st <;> first | (simp at h; done) | rfl
          have hpost : ∃ c, outC pend = some c ∧ (ev fns n).code c A ⟨S1.h.set S.nx (some (.loop .exhausted pend fr ps' as bd)), S1.nx⟩ = some (o, A', S') := by
            cases st <;> first | (simp at h; done) | exact osel_eq_some h
          obtain ⟨c, hc, hcode⟩ := hpost
          obtain ⟨w4, hw4⟩ : ∃ w4 : World, w4 = { w3 with heap := w3.heap.setIfInBounds (w.heap.size + 1) (.loop { lp3 with state := .exhausted }) } := ⟨_, rfl⟩
          refine ⟨lp3.pending, w4, ?_, ?_⟩
          · rw [hw4]
            simp only [Instr.endLoop, Sem.run_bind, run_getLoop hlp3, Result.andThen_ok, hnb, Bool.false_eq_true, if_false, run_setObj hlp3 (fun _ _ _ e => by cases e), Sem.run_pure]
          · have e4 : Ext P σ3 S1 w3 σ3 ⟨S1.h.set S.nx (some (.loop .exhausted pend fr ps' as bd)), S1.nx⟩ { w3 with heap := w3.heap.setIfInBounds (w.heap.size + 1) (.loop { lp3 with state := .exhausted }) } :=
              Ext.write e3.rep hbl trivial trivial hL' (fun r hr => heap_set_other _ hr) (by simp) rfl rfl rfl ⟨_, heap_set_same _ hlp3, rfl, hpend, hfr, hps3, has, hbd, hpb⟩
            rw [← hw4] at e4
            have e14 := e13.trans e4
            have hd4 : Df D0 lo A.inr σ3 ⟨S1.h.set S.nx (some (.loop .exhausted pend fr ps' as bd)), S1.nx⟩ w4 ([markOf w.heap.size] ++ a.defers) := by
              obtain ⟨_, rs, d1, d2, d3⟩ := hdef
              refine ⟨fun hh => (by rw [hinr] at hh; cases hh), w.heap.size :: rs, (by rw [d1]; rfl), List.nodup_cons.2 ⟨fun hm => ?_, d2⟩, fun r hr => ?_⟩
              · exact absurd (d3 _ hm).lt (by omega)
              · rcases List.mem_cons.1 hr with rfl | hr
                · exact (hmk.ext ep.rep (ea.trans (e3.trans e4)))
                · exact (d3 r hr).ext hR e14
            have hfin := ih none m nt
            have hA4 : FrR P σ3 A.F a.tmps := hF.mono (e14.mono hR)
            have hlo4 := Nat.le_trans hlo e14.size
            rw [hpend]
            cases pend with
            | none =>
              cases hc
              cases n with
              | zero => cases hcode
              | succ k =>
                cases hcode
                exact hQ σ3 _ _ rfl hsz hd4 hA4 e14
            | some out =>
              cases out with
              | normal => cases hc
              | ret =>
                cases hc
                exact hfin .ret .ret rfl A _ o A' S' (fun _ => rfl) hcode D0 lo σ3 { a with defers := [markOf w.heap.size] ++ a.defers } _ Q hsz hd4 hlo4 hA4 e4.rep (fun σ' a' w' q1 q2 q3 _ q4 q5 => hQ σ' a' w' q1 q2 q3 q4 (e14.trans q5))
              | exit i =>
                cases hc
                exact hfin (.exit i) (.exit i) rfl A _ o A' S' (fun _ => rfl) hcode D0 lo σ3 { a with defers := [markOf w.heap.size] ++ a.defers } _ Q hsz hd4 hlo4 hA4 e4.rep (fun σ' a' w' q1 q2 q3 _ q4 q5 => hQ σ' a' w' q1 q2 q3 q4 (e14.trans q5))
        · cases h
      | _ => exact he.elim

theorem and_true2 {a b : Bool} (h : (a && b) = true) : a = true ∧ b = true := by
  cases a <;> cases b <;> simp_all
theorem code_step {fns : T AFn} (hK : Known P fns) {n : Nat} (ihn : ∀ k, k < n + 1 → CodeSpec P (ev fns k).code) (hcall : CallSpec P (ev fns n).call) : CodeSpec P (ev fns (n + 1)).code := by
      have ih := ihn n (Nat.lt_succ_self n)
      intro ro m nt C c hC A S o A' S' hds h D0 lo σ a w Q hsz hdef hlo hF hR hQ
      cases C with
      | skip =>
        cases hC
        cases h
        exact wpIn_skip (hQ σ a w rfl hsz hdef (fun _ => rfl) hF (Ext.refl hR))
      | seq x y =>
        simp only [cCode] at hC
        split at hC
        · rename_i cx cy hx hy
          cases hC
          obtain ⟨⟨o1, A1, S1⟩, h1, h2⟩ := osel_eq_some (show (osel ((ev fns n).code cx A S) (seqK cy (ev fns n))) = some (o, A', S') from h)
          refine wpIn_seq (ih ro m nt x cx hx A S o1 A1 S1 hds h1 D0 lo σ a w _ hsz hdef hlo hF hR ?_)
          intro σ1 a1 w1 i1 s1 d1 k1 f1 e1
          obtain ⟨F1, q1⟩ := A1
          simp only at i1
          subst i1
          have l1 := Nat.le_trans hlo e1.size
          unfold seqK at h2
          cases o1 with
          | normal => exact ih ro m nt y cy hy ⟨F1, A.inr⟩ S1 o A' S' hds h2 D0 lo σ1 a1 w1 Q s1 d1 l1 f1 e1.rep (fun σ' a' w' q1 q2 q3 qk q4 q5 => hQ σ' a' w' q1 q2 q3 (fun hr => by obtain ⟨u1, u2⟩ := and_true2 hr; exact (qk u2).trans (k1 u1)) q4 (e1.trans q5))
          | exit i => cases h2; exact hQ σ1 a1 w1 rfl s1 d1 (fun hr => k1 (and_true2 hr).1) f1 e1
          | ret => cases h2; exact hQ σ1 a1 w1 rfl s1 d1 (fun hr => k1 (and_true2 hr).1) f1 e1
        · cases hC
      | cond x y z =>
        simp only [cCode] at hC
        split at hC
        · rename_i cc cy cz hx hy hz
          cases hC
          have h : condK (cc.val A.F) cy cz (ev fns n) A S = some (o, A', S') := h
          have hv := opd_sound (a := a) hF hR hx
          unfold condK at h
          split at h
          · rename_i t ht
            rw [ht] at hv
            simp only [Rv] at hv
            refine wpIn_cond hv ?_
            cases t
            · exact ih ro m nt z cz hz A S o A' S' hds h D0 lo σ a w Q hsz hdef hlo hF hR fun σ' a' w' q1 q2 q3 qk => hQ σ' a' w' q1 q2 q3 fun hr => qk (and_true2 hr).2
            · exact ih ro m nt y cy hy A S o A' S' hds h D0 lo σ a w Q hsz hdef hlo hF hR fun σ' a' w' q1 q2 q3 qk => hQ σ' a' w' q1 q2 q3 fun hr => qk (and_true2 hr).1
          · cases h
        · cases hC
      | block id x =>
        simp only [cCode, Option.map_eq_some_iff] at hC
        obtain ⟨cx, hx, rfl⟩ := hC
        obtain ⟨⟨o1, A1, S1⟩, h1, h2⟩ := osel_eq_some (show (osel ((ev fns n).code cx A S) (blockK id)) = some (o, A', S') from h)
        refine wpIn_block (ih ro m nt x cx hx A S o1 A1 S1 hds h1 D0 lo σ a w _ hsz hdef hlo hF hR ?_)
        intro σ1 a1 w1 i1 s1 d1 k1 f1 e1
        obtain ⟨F1, q1⟩ := A1
        simp only at i1
        subst i1
        have l1 := Nat.le_trans hlo e1.size
        unfold blockK at h2
        cases o1 with
        | normal => cases h2; exact hQ σ1 a1 w1 rfl s1 d1 k1 f1 e1
        | ret => cases h2; exact hQ σ1 a1 w1 rfl s1 d1 k1 f1 e1
        | exit i =>
          simp only at h2
          rw [bsel_eq] at h2
          show (if i = id then Q .normal a1 w1 else Q (.exit i) a1 w1)
          split at h2
          · rename_i he
            rw [Nat.beq_eq] at he
            rw [if_pos he]
            cases h2
            exact hQ σ1 a1 w1 rfl s1 d1 k1 f1 e1
          · rename_i he
            rw [Nat.beq_eq] at he
            rw [if_neg he]
            cases h2
            exact hQ σ1 a1 w1 rfl s1 d1 k1 f1 e1
      | loop x =>
        simp only [cCode, Option.map_eq_some_iff] at hC
        obtain ⟨cx, hx, rfl⟩ := hC
        exact wpIn_loop_rounds (n + 1) (loop_sound hx (n + 1) ihn A S o A' S' hds h D0 lo σ a w Q hsz hdef hlo hF hR hQ)
      | exit id =>
        cases hC
        cases h
        exact wpIn_exit (hQ σ a w rfl hsz hdef (fun _ => rfl) hF (Ext.refl hR))
      | ret =>
        cases hC
        cases h
        exact wpIn_ret (hQ σ a w rfl hsz hdef (fun _ => rfl) hF (Ext.refl hR))
      | region id ops d =>
        simp only [cCode, Bool.cond_eq_ite] at hC
        split at hC
        · rename_i hd
          subst hd
          obtain ⟨aos, rfl⟩ : ∃ aos, c = .drw aos := by
            unfold cDrawn at hC
            split at hC
            · rw [Bool.cond_eq_ite] at hC
              split at hC
              · cases hC; exact ⟨_, rfl⟩
              · cases hC
            · cases hC
          obtain ⟨⟨F1, S1⟩, h1, h2⟩ := osel_eq_some (show (osel (evDrawn aos (ev fns n).call A.F S) fun r => some (Out.normal, (⟨r.1, A.inr⟩ : Act'), r.2)) = some (o, A', S') from h)
          cases h2
          exact hK.drawn _ hcall ro m nt id ops aos hC σ A.F F1 S S1 a w Q hsz hF hR h1 (fun σ' a' w' q1 q2 q3 q4 => hQ σ' a' w' rfl q2 (by rw [q3]; exact hdef.ext hR q4) (fun _ => q3) q1 q4)
        · rename_i hd
          have hd : d = false := by simpa using hd
          subst hd
          obtain ⟨aos, haos, rfl⟩ := Option.map_eq_some_iff.1 hC
          obtain ⟨⟨F1, S1⟩, h1, h2⟩ := osel_eq_some (show (osel (evOps aos (ev fns n).call A.F S) fun r => some (Out.normal, (⟨r.1, A.inr⟩ : Act'), r.2)) = some (o, A', S') from h)
          cases h2
          refine wpIn_region ?_
          rw [List.range_eq_range', ← Array.length_toList]
          exact evOps_sound hK.asked hK.bits hcall ops.toList 0 [] aos σ A.F F1 S S1 a w (fun j _ => by simp) haos hsz hF hR h1 (fun σ' a' w' q1 q2 q3 q4 => hQ σ' a' w' rfl q2 (by rw [q3]; exact hdef.ext hR q4) (fun _ => q3) q1 q4)
      | rangeFunc f ps x y =>
        simp only [cCode, Bool.cond_eq_ite] at hC
        split at hC
        · rename_i hps
          split at hC
          · rename_i cf cx cy hf hx hy
            cases hC
            exact rng_sound hK ih hcall (fun k hk => by subst hk; exact ihn k (by omega)) hf hx hy hps hds h hsz hdef hlo hF hR fun σ' a' w' q1 q2 q3 => hQ σ' a' w' q1 q2 q3 fun hr => by cases hr
          · cases hC
        · cases hC
      | scope x => cases hC
      | label l => cases hC
      | goto l => cases hC
      | refuse s => cases hC

theorem specs {fns : T AFn} (hK : Known P fns) (n : Nat) : CodeSpec P (ev fns n).code ∧ CallSpec P (ev fns n).call := by
  induction n using Nat.strongRecOn with
  | _ n ihn =>
    cases n with
    | zero => exact ⟨(fun ro m nt C c hC A S o A' S' hds h => by cases h), (fun f args S v S' h => by cases h)⟩
    | succ n => exact ⟨code_step hK (fun k hk => (ihn k hk).1) (ihn n (Nat.lt_succ_self n)).2, call_sound hK fun k hk => ihn k (by omega)⟩
theorem code_sound {fns : T AFn} (hK : Known P fns) (n : Nat) : CodeSpec P (ev fns n).code := (specs hK n).1

/-- THE EVALUATOR's WORD on a call. -/
theorem ev_sound {fns : T AFn} (hK : Known P fns) (n : Nat) : CallSpec P (ev fns n).call := (specs hK n).2
end Go.Ev

namespace Go.Ev
variable {P : Program}

/-! ## What a piece of code leaves alone; returns as exits -/
theorem kp_put {k : Nat} {d : Option Nat} (h : kpD k d = true) (F : Fr) (v : AV) : tmpV k (putF d F v) = tmpV k F := by
  cases d with
  | none => rfl
  | some i =>
    show tmpV k (F.set i (some v)) = _
    rw [tmpV_set, if_neg]
    rintro rfl
    simp [kpD] at h
theorem oOp_keep {op : AOp} {d : Option Nat} {call : CallF} {F F' : Fr} {S S' : St} {k : Nat} (h : oOp op d call F S = some (F', S')) : ∃ v, F' = putF d F v := by
  cases op with
  | q q =>
    obtain ⟨v, _, h2⟩ := osel_eq_some (show osel (evQ q F S.h) (fun v => some (putF d F v, S)) = some (F', S') from h)
    cases h2; exact ⟨_, rfl⟩
  | a a =>
    obtain ⟨v, _, h2⟩ := osel_eq_some (show (osel (evA a F S.nx) fun r => some (putF d F r.1, (⟨S.h.set S.nx (some r.2), Nat.succ S.nx⟩ : St))) = some (F', S') from h)
    cases h2; exact ⟨_, rfl⟩
  | x x =>
    obtain ⟨v, _, h2⟩ := osel_eq_some (show (osel (evX x call F S) fun r => some (putF d F r.1, r.2)) = some (F', S') from h)
    cases h2; exact ⟨_, rfl⟩
theorem evOps_keep {call : CallF} {k : Nat} : ∀ {l : List AO} {F F' : Fr} {S S' : St}, kpO k l = true → evOps l call F S = some (F', S') → tmpV k F' = tmpV k F
  | [], F, F', S, S', _, h => by cases h; rfl
  | o :: l, F, F', S, S', hk, h => by
    obtain ⟨h1, h2⟩ := and_true2 (show (kpD k o.dst && kpO k l) = true from hk)
    rw [evOps_cons] at h
    obtain ⟨⟨F1, S1⟩, e1, e2⟩ := osel_eq_some h
    rw [evOps_keep h2 e2]
    unfold evOp at e1
    rw [bsel_eq] at e1
    split at e1
    · obtain ⟨v, rfl⟩ := oOp_keep (k := k) e1
      exact kp_put h1 F v
    · cases e1
      exact kp_put h1 F _
theorem dOp_keep {o : AO} {i base : Nat} {call : CallF} {D D' : DS} (h : dOp o.op o i base call D = some D') : ∃ v, D'.F = putF o.dst D.F v := by
  cases hop : o.op with
  | q q =>
    rw [hop] at h
    obtain ⟨v, _, h2⟩ := osel_eq_some (show (osel (evQ q D.F D.S.h) fun v => some (⟨putF o.dst D.F v, D.S, D.ps, D.hs, bsel (isLoad q) (⟨q, D.F, v, i, o.mask⟩ :: D.ls) D.ls⟩ : DS)) = some D' from h)
    cases h2; exact ⟨_, rfl⟩
  | a a =>
    rw [hop] at h
    obtain ⟨v, _, h2⟩ := osel_eq_some (show (osel (evA a D.F (base + i)) fun r => some (⟨putF o.dst D.F r.1, D.S, ⟨i, base + i, r.2⟩ :: D.ps, D.hs, D.ls⟩ : DS)) = some D' from h)
    cases h2; exact ⟨_, rfl⟩
  | x x =>
    rw [hop] at h
    obtain ⟨_, h⟩ := bsel_some (show bsel (lastOk D.hs o.mask) (osel (evX x call D.F ⟨(flush o.mask D.ps D.S.h).2, D.S.nx⟩) fun r =>
      some (⟨putF o.dst D.F r.1, r.2, (flush o.mask D.ps D.S.h).1, (i, o.mask, r.2.h) :: D.hs, D.ls⟩ : DS)) none = some D' from h)
    obtain ⟨v, _, h2⟩ := osel_eq_some h
    cases h2; exact ⟨_, rfl⟩
theorem evDs_keep {base : Nat} {call : CallF} {k : Nat} : ∀ {l : List AO} {i : Nat} {D D' : DS}, kpO k l = true → evDs l i base call D = some D' → tmpV k D'.F = tmpV k D.F
  | [], i, D, D', _, h => by cases h; rfl
  | o :: l, i, D, D', hk, h => by
    obtain ⟨h1, h2⟩ := and_true2 (show (kpD k o.dst && kpO k l) = true from hk)
    obtain ⟨D1, e1, e2⟩ := osel_eq_some (show (osel (evD o i base call D) fun D' => evDs l (i + 1) base call D') = some D' from h)
    rw [evDs_keep h2 e2]
    unfold evD at e1
    rw [bsel_eq] at e1
    split at e1
    · obtain ⟨v, e⟩ := dOp_keep e1
      rw [e]
      exact kp_put h1 D.F v
    · cases e1
      exact kp_put h1 D.F _
theorem evDrawn_keep {call : CallF} {k : Nat} {l : List AO} {F F' : Fr} {S S' : St} (hk : kpO k l = true) (h : evDrawn l call F S = some (F', S')) : tmpV k F' = tmpV k F := by
  obtain ⟨D, h1, h2⟩ := osel_eq_some (show (osel (evDs l 0 S.nx call ⟨F, ⟨S.h, S.nx + lenL l⟩, [], [], []⟩) fun D => endDrawn S.h (lenL l) D) = some (F', S') from h)
  obtain ⟨_, h3⟩ := bsel_some (show bsel (loadsOk S.h D.hs.reverse D.ls) (some (D.F, (⟨(flush (2 ^ lenL l - 1) D.ps D.S.h).2, D.S.nx⟩ : St))) none = some (F', S') from h2)
  cases h3
  exact evDs_keep hk h1
theorem code_keep {fns : T AFn} {k : Nat} : ∀ (n : Nat) (c : AC) (A : Act') (S : St) (o : Out) (A' : Act') (S' : St), keepsT k c = true → (ev fns n).code c A S = some (o, A', S') → tmpV k A'.F = tmpV k A.F := by
  intro n
  induction n with
  | zero => intro c A S o A' S' _ h; cases h
  | succ n ih =>
    intro c A S o A' S' hk h
    cases c with
    | skip => cases h; rfl
    | seq a b =>
      obtain ⟨k1, k2⟩ := and_true2 (show (keepsT k a && keepsT k b) = true from hk)
      obtain ⟨⟨o1, A1, S1⟩, h1, h2⟩ := osel_eq_some (show (osel ((ev fns n).code a A S) (seqK b (ev fns n))) = some (o, A', S') from h)
      have e1 := ih a A S o1 A1 S1 k1 h1
      unfold seqK at h2
      cases o1 with
      | normal => rw [ih b A1 S1 o A' S' k2 h2, e1]
      | exit i => cases h2; exact e1
      | ret => cases h2; exact e1
    | cond c a b =>
      obtain ⟨k1, k2⟩ := and_true2 (show (keepsT k a && keepsT k b) = true from hk)
      have h : condK (c.val A.F) a b (ev fns n) A S = some (o, A', S') := h
      unfold condK at h
      split at h
      · rename_i t _
        cases t
        · exact ih b A S o A' S' k2 h
        · exact ih a A S o A' S' k1 h
      · cases h
    | block id a =>
      obtain ⟨⟨o1, A1, S1⟩, h1, h2⟩ := osel_eq_some (show (osel ((ev fns n).code a A S) (blockK id)) = some (o, A', S') from h)
      have e1 := ih a A S o1 A1 S1 hk h1
      unfold blockK at h2
      cases o1 with
      | normal => cases h2; exact e1
      | ret => cases h2; exact e1
      | exit i =>
        simp only at h2
        rw [bsel_eq] at h2
        split at h2 <;> (cases h2; exact e1)
    | loop a =>
      obtain ⟨⟨o1, A1, S1⟩, h1, h2⟩ := osel_eq_some (show (osel ((ev fns n).code a A S) (seqK (.loop a) (ev fns n))) = some (o, A', S') from h)
      have e1 := ih a A S o1 A1 S1 hk h1
      unfold seqK at h2
      cases o1 with
      | normal => rw [ih (.loop a) A1 S1 o A' S' hk h2, e1]
      | exit i => cases h2; exact e1
      | ret => cases h2; exact e1
    | exit id => cases h; rfl
    | ret => cases h; rfl
    | reg l =>
      obtain ⟨⟨F1, S1⟩, h1, h2⟩ := osel_eq_some (show (osel (evOps l (ev fns n).call A.F S) fun r => some (Out.normal, (⟨r.1, A.inr⟩ : Act'), r.2)) = some (o, A', S') from h)
      cases h2
      exact evOps_keep hk h1
    | drw l =>
      obtain ⟨⟨F1, S1⟩, h1, h2⟩ := osel_eq_some (show (osel (evDrawn l (ev fns n).call A.F S) fun r => some (Out.normal, (⟨r.1, A.inr⟩ : Act'), r.2)) = some (o, A', S') from h)
      cases h2
      exact evDrawn_keep hk h1
    | rng f ps a b => cases hk
    | dfr l f as => cases hk
def backK (K : Nat) : Out → Out
  | .exit i => if i = K then .ret else .exit i
  | o => o
theorem free_exit {K i : Nat} (h : (!(Nat.beq i K)) = true) : i ≠ K := by
  rintro rfl
  simp at h
theorem backK_same {K i : Nat} (h : i ≠ K) : backK K (.exit i) = .exit i := if_neg h
theorem backK_K {K : Nat} : backK K (.exit K) = .ret := if_pos rfl
theorem backK_or {K i : Nat} : backK K (.exit i) = .ret ∨ backK K (.exit i) = .exit i := by
  by_cases h : i = K
  · exact .inl (if_pos h)
  · exact .inr (if_neg h)
theorem retEx_back {fns : T AFn} {K : Nat} : ∀ (n : Nat) (c : AC) (A : Act') (S : St) (o : Out) (A' : Act') (S' : St), freeK K c = true → (ev fns n).code (retEx K c) A S = some (o, A', S') → o ≠ .ret ∧ (ev fns n).code c A S = some (backK K o, A', S') := by
  intro n
  induction n with
  | zero => intro c A S o A' S' _ h; cases h
  | succ n ih =>
    intro c A S o A' S' hk h
    cases c with
    | skip => cases h; exact ⟨fun e => (by cases e), rfl⟩
    | seq a b =>
      obtain ⟨k1, k2⟩ := and_true2 (show (freeK K a && freeK K b) = true from hk)
      obtain ⟨⟨o1, A1, S1⟩, h1, h2⟩ := osel_eq_some (show (osel ((ev fns n).code (retEx K a) A S) (seqK (retEx K b) (ev fns n))) = some (o, A', S') from h)
      obtain ⟨n1, e1⟩ := ih a A S o1 A1 S1 k1 h1
      show o ≠ .ret ∧ osel ((ev fns n).code a A S) (seqK b (ev fns n)) = _
      rw [e1]
      unfold seqK at h2
      cases o1 with
      | normal => exact ih b A1 S1 o A' S' k2 h2
      | exit i =>
        cases h2
        refine ⟨n1, ?_⟩
        show seqK b (ev fns n) (backK K (.exit i), _, _) = _
        rcases backK_or (K := K) (i := i) with e | e <;> rw [e] <;> rfl
      | ret => exact absurd rfl n1
    | cond c a b =>
      obtain ⟨k1, k2⟩ := and_true2 (show (freeK K a && freeK K b) = true from hk)
      have h : condK (c.val A.F) (retEx K a) (retEx K b) (ev fns n) A S = some (o, A', S') := h
      show o ≠ .ret ∧ condK (c.val A.F) a b (ev fns n) A S = _
      unfold condK at h ⊢
      split at h
      · rename_i t e
        cases t
        · exact ih b A S o A' S' k2 h
        · exact ih a A S o A' S' k1 h
      · cases h
    | block id a =>
      obtain ⟨k0, k1⟩ := and_true2 (show (!(Nat.beq id K) && freeK K a) = true from hk)
      have k0 := free_exit k0
      obtain ⟨⟨o1, A1, S1⟩, h1, h2⟩ := osel_eq_some (show (osel ((ev fns n).code (retEx K a) A S) (blockK id)) = some (o, A', S') from h)
      obtain ⟨n1, e1⟩ := ih a A S o1 A1 S1 k1 h1
      show o ≠ .ret ∧ osel ((ev fns n).code a A S) (blockK id) = _
      rw [e1]
      unfold blockK at h2
      cases o1 with
      | normal => cases h2; exact ⟨fun e => (by cases e), rfl⟩
      | ret => exact absurd rfl n1
      | exit i =>
        simp only at h2
        rw [bsel_eq] at h2
        split at h2
        · rename_i e
          rw [Nat.beq_eq] at e
          cases h2
          refine ⟨fun e => (by cases e), ?_⟩
          show blockK id (backK K (.exit i), _, _) = _
          rw [backK_same (by rw [e]; exact k0)]
          show bsel (Nat.beq i id) _ _ = _
          rw [bsel_eq, if_pos (by rw [Nat.beq_eq]; exact e)]
          rfl
        · rename_i e
          cases h2
          refine ⟨fun e => (by cases e), ?_⟩
          show blockK id (backK K (.exit i), _, _) = some (backK K (.exit i), _, _)
          rcases backK_or (K := K) (i := i) with e2 | e2
          · rw [e2]; rfl
          · rw [e2]
            show bsel (Nat.beq i id) _ _ = _
            rw [bsel_eq, if_neg e]
    | loop a =>
      obtain ⟨⟨o1, A1, S1⟩, h1, h2⟩ := osel_eq_some (show (osel ((ev fns n).code (retEx K a) A S) (seqK (.loop (retEx K a)) (ev fns n))) = some (o, A', S') from h)
      obtain ⟨n1, e1⟩ := ih a A S o1 A1 S1 hk h1
      show o ≠ .ret ∧ osel ((ev fns n).code a A S) (seqK (.loop a) (ev fns n)) = _
      rw [e1]
      unfold seqK at h2
      cases o1 with
      | normal => exact ih (.loop a) A1 S1 o A' S' hk h2
      | exit i =>
        cases h2
        refine ⟨n1, ?_⟩
        show seqK (.loop a) (ev fns n) (backK K (.exit i), _, _) = _
        rcases backK_or (K := K) (i := i) with e | e <;> rw [e] <;> rfl
      | ret => exact absurd rfl n1
    | exit id =>
      have k0 := free_exit (show (!(Nat.beq id K)) = true from hk)
      cases h
      refine ⟨fun e => (by cases e), ?_⟩
      show some (Out.exit id, A, S) = some (backK K (.exit id), A, S)
      rw [backK_same k0]
    | ret =>
      cases h
      refine ⟨fun e => (by cases e), ?_⟩
      show some (Out.ret, A, S) = some (backK K (.exit K), A, S)
      rw [backK_K]
    | reg l =>
      obtain ⟨⟨F1, S1⟩, h1, h2⟩ := osel_eq_some (show (osel (evOps l (ev fns n).call A.F S) fun r => some (Out.normal, (⟨r.1, A.inr⟩ : Act'), r.2)) = some (o, A', S') from h)
      cases h2
      exact ⟨fun e => (by cases e), h⟩
    | drw l =>
      obtain ⟨⟨F1, S1⟩, h1, h2⟩ := osel_eq_some (show (osel (evDrawn l (ev fns n).call A.F S) fun r => some (Out.normal, (⟨r.1, A.inr⟩ : Act'), r.2)) = some (o, A', S') from h)
      cases h2
      exact ⟨fun e => (by cases e), h⟩
    | rng f ps a b => cases hk
    | dfr l f as => cases h
end Go.Ev

namespace Go.Ev
variable {P : Program}

/-! ## A region whose last operation defers a call -/
theorem uponIn_mono {F : Fence} {n : Nat} {o : Oper} {a : Act} {next next' : Act → World → Prop} {Q Q' : Exit → Act → World → Prop} (hp : ∀ c a w, Q' (.panic c) a w → Q (.panic c) a w) (ho : ∀ a w, Q' .outgrown a w → Q .outgrown a w) (hn : ∀ a w, next' a w → next a w) {r : Result Next} (h : o.uponIn F n P a next' Q' r) : o.uponIn F n P a next Q r := by
  cases r with
  | ok nx w' =>
    cases nx with
    | value v => exact hn _ _ h
    | skip => exact hn _ _ h
    | defer d => exact hn _ _ h
    | enter f args =>
      refine ⟨h.1, CallsIn.mono h.2 fun e w2 he => ?_⟩
      cases e with
      | returned v => exact hn _ _ he
      | panicked c => exact hp _ _ _ he
      | outgrown => obtain ⟨a2, w3, h3⟩ := he; exact ⟨a2, w3, ho _ _ h3⟩
    | row row args => exact ⟨h.1, RowsIn.mono h.2 fun v w2 he => hn _ _ he⟩
    | round l f tmps asn bd =>
      refine ⟨h.1, RoundIn.mono h.2 fun e w2 he => ?_⟩
      cases e with
      | returned v => exact hn _ _ he
      | panicked c => exact hp _ _ _ he
      | outgrown => obtain ⟨a2, w3, h3⟩ := he; exact ⟨a2, w3, ho _ _ h3⟩
    | _ => exact h
  | halt e w' =>
    cases e with
    | panic v => exact hp _ _ _ h
    | _ => exact h
def tailQ (N : Act → World → Prop) (Q : Exit → Act → World → Prop) : Exit → Act → World → Prop
  | .normal, a, w => N a w
  | e, a, w => Q e a w
theorem wpOpsIn_app {F : Fence} {n : Nat} {ops : Array Oper} {Q : Exit → Act → World → Prop} {tl : List Nat} : ∀ (l : List Nat) (a : Act) (w : World), wpOpsIn F n P ops (tailQ (wpOpsIn F n P ops Q tl) Q) l a w → wpOpsIn F n P ops Q (l ++ tl) a w
  | [], a, w, h => h
  | i :: l, a, w, h => by
    simp only [wpOpsIn, List.cons_append] at h ⊢
    split at h
    · rename_i e
      exact wpOpsIn_app l a w h
    · rename_i o e
      split at h
      · rename_i hw
        rw [if_pos hw]
        exact ⟨h.1, uponIn_mono (fun c a w h => h) (fun a w h => h) (fun a w h => wpOpsIn_app l a w h) h.2⟩
      · rename_i hw
        rw [if_neg hw]
        exact ⟨h.1, wpOpsIn_app l _ w h.2⟩
/-- a function is left: the marks are taken, and what else is deferred comes -/
theorem leavesD {fn : Func} {n : Nat} {tmps : Array Value} {R : Ending → World → Prop} {D0 : List Deferred} {σ0 σ : Env} {S0 S : St} {w0 : World} : ∀ (rs : List Nat) (w : World), rs.Nodup → (∀ r ∈ rs, Mark w0.heap.size σ S w r) → Ext P σ0 S0 w0 σ S w →
    (∀ w', Ext P σ0 S0 w0 σ S w' → LeavesInM Fence.wide n P fn tmps R D0 .returning w') → LeavesInM Fence.wide n P fn tmps R (rs.map markOf ++ D0) .returning w
  | [], w, _, _, he, hQ => hQ w he
  | r :: rs, w, hn, hm, he, hQ => by
    have hr := hm r (by simp)
    rw [List.nodup_cons] at hn
    refine ⟨by simp, .inl ⟨r, { w with heap := w.heap.setIfInBounds r (.deferred none) }, rfl, ?_, ?_⟩⟩
    · simp only [Instr.takeDeferred, Sem.run_bind, run_getObj hr.cell (fun _ _ _ e => by cases e), Result.andThen_ok, run_setObj hr.cell (fun _ _ _ e => by cases e), Sem.run_pure]
    · refine leavesD rs _ hn.2 (fun r' hr' => ?_) (he.poke hr.low hr.off (fun r' h => heap_set_other _ h) (by simp) rfl rfl rfl) hQ
      have h1 := hm r' (by simp [hr'])
      have hne : r' ≠ r := fun e => hn.1 (e ▸ hr')
      exact ⟨h1.low, by simpa using h1.lt, by rw [heap_set_other _ hne]; exact h1.cell, h1.off⟩
/-- a closure, entered as a deferred call -/
theorem callD {fns : T AFn} {n : Nat} (hcode : CodeSpec P (ev fns n).code) {id : Nat} {Fn : Func} {fn : AFn} (hfn : fns.get id = some fn) (hFn : P.funcs[id]? = some Fn) (hc : cFn P Fn = some fn) (hr : noRng fn.body = true)
    {first cap : List AV} {S S' : St} {v : AV} (h : evCall fns (ev fns n) (.fn id first cap) [] S = some (v, S')) {σ : Env} {w : World} {A B : List Value} (hA : Rvs P σ first A) (hB : Rvs P σ cap B) (hR : Rep P σ S w) :
    CallsDIn Fence.wide 0 P id ⟨A ++ B⟩ .returning w fun e u' w' => u' = .returning ∧ ∃ V, e = .returned V ∧ ∃ σ', Ext P σ S w σ' S' w' := by
  obtain ⟨fn', hfn', h⟩ := osel_eq_some (show (osel (fns.get id) fun fn => callFn fn (appL first (appL [] cap)) (ev fns n) S) = some (v, S') from h)
  rw [hfn] at hfn'; cases hfn'
  obtain ⟨C, c, rs, hbody, hname, hC, hrs, rfl⟩ := cFn_some hc
  unfold callFn at h
  obtain ⟨hle, h⟩ := bsel_some h
  obtain ⟨⟨o, A', S1⟩, h1, h2⟩ := osel_eq_some h
  rw [lenL_eq, appL_eq, appL_eq] at hle
  have hle := Nat.le_of_ble_eq_true hle
  rw [appL_eq, appL_eq] at h1
  have hall : Rvs P σ (first ++ ([] ++ cap)) (A ++ B) := hA.append hB
  obtain ⟨hfr, hsz⟩ := args_frame hall (nt := Fn.ntmps) hle
  have hsz0 : (⟨A ++ B⟩ : Array Value).size = (A ++ B).length := rfl
  refine callsDIn_of_wp (R := fun e w' => ∃ V, e = .returned V ∧ ∃ σ', Ext P σ S w σ' S' w') hFn hbody trivial ?_
  rw [← Fw_none, hsz0]
  refine hcode none 0 Fn.ntmps C c hC ⟨argsIn (first ++ ([] ++ cap)) 0 .e, false⟩ S o A' S1 (fun _ => rfl) h1 [] w.heap.size σ _ w _ hsz Df.nil (Nat.le_refl _) hfr hR ?_
  intro σ' a' w' hinr hsz' hdf hkeep hfr' hext
  have hd : a'.defers = [] := hkeep hr
  unfold leaveK at h2
  obtain ⟨vs, h6, h7⟩ : ∃ vs, results rs A'.F S1.h = some vs ∧ some (oneOf vs, S1) = some (v, S') := by
    cases o with
    | normal => exact osel_eq_some h2
    | ret => exact osel_eq_some h2
    | exit i => cases h2
  cases h7
  have fin : ∃ V, (Go.results Fn a'.tmps).run P w' = .ok V w' := by
    obtain ⟨Vs, h8, h9⟩ := results_sound hext.rep hfr' hrs h6
    refine ⟨if h : Vs.toArray.size = 1 then Vs.toArray[0] else .tuple Vs.toArray, ?_⟩
    show ((do let vs ← Fn.results.mapM (resOf a'.tmps); pure (if h : vs.size = 1 then vs[0] else .tuple vs) : Sem Value)).run P w' = _
    rw [Array.mapM_eq_mapM_toList]
    simp only [Sem.run_bind, Sem.run_map, h8, Result.andThen_ok, Sem.run_pure]
  obtain ⟨V, hV⟩ := fin
  cases o with
  | normal => exact ⟨hd, V, hV, V, rfl, σ', hext⟩
  | ret => exact ⟨hd, V, hV, V, rfl, σ', hext⟩
  | exit i => cases h2
end Go.Ev

namespace Go.Ev
variable {P : Program}

/-! ## The body of a function that defers a call -/
theorem DBody.seq {fns : T AFn} {Fn : Func} {x y : Code} {cx cy : AC} (hx : cCode P Fn.ntmps x = some cx) (hr : noRng cx = true) (hy : DBody P fns Fn y cy) : DBody P fns Fn (.seq x y) (.seq cx cy) := by
  intro n hk A S o A' S' hinr h ho σ0 σ S0 w0 w a R hsz hd hF he hlo hQ
  cases n with
  | zero => cases h
  | succ n =>
    obtain ⟨⟨o1, A1, S1⟩, h1, h2⟩ := osel_eq_some (show (osel ((ev fns n).code cx A S) (seqK cy (ev fns n))) = some (o, A', S') from h)
    refine wpIn_seq ((hk n (by omega)).1 none 0 Fn.ntmps x cx hx A S o1 A1 S1 (fun _ => rfl) h1 [] w0.heap.size σ a w _ hsz (by rw [hd]; exact Df.nil) hlo hF he.rep ?_)
    intro σ1 a1 w1 i1 s1 d1 k1 f1 e1
    have hd1 : a1.defers = [] := (k1 hr).trans hd
    unfold seqK at h2
    cases o1 with
    | normal => exact hy n (fun k h => hk k (by omega)) A1 S1 o A' S' (i1.trans hinr) h2 ho σ0 σ1 S0 w0 w1 a1 R s1 hd1 f1 (he.trans e1) (Nat.le_trans hlo e1.size) hQ
    | exit i => cases h2; exact absurd rfl (ho i)
    | ret =>
      cases h2
      show LeavesInM Fence.wide 0 P Fn a1.tmps R a1.defers .returning w1
      rw [hd1]
      exact hQ σ1 a1.tmps w1 f1 (he.trans e1)
theorem run_enter {idc : Nat} {Fnc : Func} {C : Code} {VA VB : List Value} {w : World} (hFn : P.funcs[idc]? = some Fnc) (hbody : Fnc.body = some C) (hname : ¬ (Fnc.name == "runtime.NumGoroutine") = true) : (invoke (.fn (.func idc) ⟨VB⟩) (⟨VA⟩ ++ #[])).run P w = .ok (.enter idc ⟨VA ++ VB⟩) w := by
  have h := run_invoke_func (P := P) (A := VA) (B := VB) (Args := []) (w := w) hFn hbody hname
  simpa [Deferred.ofValue] using h
theorem DBody.dfr {fns : T AFn} {Fn : Func} {rid : Nat} {ops : Array Oper} {l : List Oper} {f : Operand} {ts : Array TypeId} {ty : TypeId} {pos : String} {after : Array Edge} {aos : List AO} {K k : Nat} {y : Code} {cy : AC} {idc : Nat} {Fnc : Func} {fnc : AFn}
    (hA : Asked P) (hB : BitsSound P) (hops : ops.toList = l ++ [⟨none, .defer ⟨.value f, #[], ts⟩, ty, pos, after, none⟩]) (haos : cOpers P Fn.ntmps ops l [] = some aos) (hf : cOpd P f = some (.t k)) (hy : cCode P Fn.ntmps y = some cy) (hK : freeK K cy = true) (hk : keepsT k cy = true)
    (hfn : fns.get idc = some fnc) (hFn : P.funcs[idc]? = some Fnc) (hc : cFn P Fnc = some fnc) (hrng : noRng fnc.body = true) (hmk : ∀ (call : CallF) (F : Fr) (S : St) (F' : Fr) (S' : St), evOps aos call F S = some (F', S') → ∃ first cap, tmpV k F' = .fn idc first cap) :
    DBody P fns Fn (.seq (.region rid ops false) y) (.seq (.reg aos) (.seq (.block K (retEx K cy)) (.reg [⟨none, .x (.call (.t k) []), none, 0⟩]))) := by
  intro n hs A S o A' S' hinr h ho σ0 σ S0 w0 w a R hsz hd hF he hlo hQ
  cases n with
  | zero => cases h
  | succ n =>
  obtain ⟨⟨o1, A1, S1⟩, h1, h2⟩ := osel_eq_some (show (osel ((ev fns n).code (.reg aos) A S) (seqK (.seq (.block K (retEx K cy)) (.reg [⟨none, .x (.call (.t k) []), none, 0⟩])) (ev fns n))) = some (o, A', S') from h)
  cases n with
  | zero => cases h1
  | succ n =>
  obtain ⟨⟨F1, S1'⟩, g1, g2⟩ := osel_eq_some (show (osel (evOps aos (ev fns n).call A.F S) fun r => some (Out.normal, (⟨r.1, A.inr⟩ : Act'), r.2)) = some (o1, A1, S1) from h1)
  cases g2
  obtain ⟨⟨o2, A2, S2⟩, b1, b2⟩ := osel_eq_some (show (osel ((ev fns n).code (.block K (retEx K cy)) ⟨F1, A.inr⟩ S1') (seqK (.reg [⟨none, .x (.call (.t k) []), none, 0⟩]) (ev fns n))) = some (o, A', S') from h2)
  have hcn := (hs n (by omega)).2
  cases n with
  | zero => cases b1
  | succ n =>
  obtain ⟨⟨o3, A3, S3⟩, c1, c2⟩ := osel_eq_some (show (osel ((ev fns n).code (retEx K cy) ⟨F1, A.inr⟩ S1') (blockK K)) = some (o2, A2, S2) from b1)
  obtain ⟨nr, e3⟩ := retEx_back n cy _ _ _ _ _ hK c1
  have kk := code_keep n cy _ _ _ _ _ hk e3
  have hout : (o2, A2, S2) = (.normal, A3, S3) ∧ (backK K o3 = .normal ∨ backK K o3 = .ret) := by
    unfold blockK at c2
    cases o3 with
    | normal => cases c2; exact ⟨rfl, .inl rfl⟩
    | ret => exact absurd rfl nr
    | exit i =>
      simp only at c2
      rw [bsel_eq] at c2
      split at c2
      · rename_i e
        rw [Nat.beq_eq] at e
        subst e
        cases c2
        exact ⟨rfl, .inr backK_K⟩
      · cases c2
        unfold seqK at b2
        cases b2
        exact absurd rfl (ho i)
  obtain ⟨hq, hend⟩ := hout
  cases hq
  obtain ⟨⟨F4, S4⟩, d1, d2⟩ := osel_eq_some (show (osel (evOps [⟨none, .x (.call (.t k) []), none, 0⟩] (ev fns n).call A2.F S2) fun r => some (Out.normal, (⟨r.1, A2.inr⟩ : Act'), r.2)) = some (o, A', S') from b2)
  cases d2
  rw [evOps_cons] at d1
  obtain ⟨⟨F5, S5⟩, d3, d4⟩ := osel_eq_some d1
  cases d4
  obtain ⟨⟨v, S6⟩, d5, d6⟩ := osel_eq_some (show (osel ((ev fns n).call (tmpV k A2.F) [] S2) fun r => some (A2.F, r.2)) = some (F5, S5) from d3)
  cases d6
  obtain ⟨first, cap, hv⟩ := hmk _ _ _ _ _ g1
  rw [kk, hv] at d5
  cases n with
  | zero => cases d5
  | succ n =>
  have d5 : evCall fns (ev fns n) (.fn idc first cap) [] S2 = some (v, _) := d5
  -- the machine
  have hsize : List.range ops.size = List.range' 0 l.length ++ [l.length] := by
    rw [List.range_eq_range', ← Array.length_toList, hops, List.length_append, List.length_singleton, List.range'_1_concat, Nat.zero_add]
  have hlast : ops[l.length]? = some ⟨none, .defer ⟨.value f, #[], ts⟩, ty, pos, after, none⟩ := by
    rw [← Array.getElem?_toList, hops, List.getElem?_append_right (Nat.le_refl _), Nat.sub_self]
    rfl
  refine wpIn_seq (wpIn_region ?_)
  rw [hsize]
  refine wpOpsIn_app _ _ _ ?_
  refine evOps_sound hA hB hcn l 0 [] aos σ A.F F1 S S1' a w (fun j hj => by rw [Nat.zero_add, ← Array.getElem?_toList, hops, List.getElem?_append_left hj]) haos hsz hF he.rep g1 ?_
  intro σ1 a1 w1 f1 s1 q1 e1
  have hd1 : a1.defers = [] := q1.trans hd
  have hfv := opd_sound (a := a1) f1 e1.rep hf
  rw [show (Opd.t k).val F1 = tmpV k F1 from rfl, hv] at hfv
  simp only [Rv] at hfv
  obtain ⟨VA, VB, hev, hVA, hVB⟩ := hfv
  show wpOpsIn (Fw none) 0 P ops _ [l.length] a1 w1
  simp only [wpOpsIn, hlast]
  rw [if_pos (by rfl)]
  refine ⟨fun _ _ => trivial, ?_⟩
  have hrun : (Oper.semAt (Fw none).round a1.eval ⟨none, .defer ⟨.value f, #[], ts⟩, ty, pos, after, none⟩).run P w1 = .ok (.defer ⟨.fn (.func idc) ⟨VB⟩, ⟨VA⟩ ++ #[]⟩) w1 := by
    show (execOp a1.eval ⟨none, .defer ⟨.value f, #[], ts⟩, ty, pos, after, none⟩).run P w1 = _
    simp [execOp, resolve, hev, Deferred.ofValue]
  rw [hrun]
  obtain ⟨d, hdd⟩ : ∃ d : Deferred, d = ⟨.fn (.func idc) ⟨VB⟩, ⟨VA⟩ ++ #[]⟩ := ⟨_, rfl⟩
  rw [← hdd]
  show y.wpIn (Fw none) 0 P _ { a1 with defers := d :: a1.defers } w1
  refine (hs (n + 1) (by omega)).1 none 0 Fn.ntmps y cy hy ⟨F1, A.inr⟩ S1' (backK K o3) A2 S2 (fun _ => rfl) e3 [d] w0.heap.size σ1 { a1 with defers := d :: a1.defers } w1 _ s1 ⟨fun h => (by have h : A.inr = true := h; rw [hinr] at h; cases h), [], by show d :: a1.defers = _; rw [hd1]; rfl, by simp, fun r hr => by cases hr⟩ (Nat.le_trans hlo e1.size) f1 e1.rep ?_
  intro σ2 a2 w2 i2 s2 q2 k2 f2 e2
  obtain ⟨_, rs, hds, hnd, hmks⟩ := q2
  have hgo : LeavesInM Fence.wide 0 P Fn a2.tmps R a2.defers .returning w2 := by
    rw [hds]
    refine leavesD rs w2 hnd hmks (he.trans (e1.trans e2)) fun w3 e30 => ?_
    obtain ⟨Cc, cc, rsc, hbody, hname, _⟩ := cFn_some hc
    have hcall := callD (hs n (by omega)).1 hfn hFn hc hrng d5 (hVA.mono (e2.mono e1.rep)) (hVB.mono (e2.mono e1.rep)) e30.rep
    refine ⟨by simp, .inr ⟨fun h => by simp [Fence.wide] at h, .func idc, ⟨VB⟩, idc, ⟨VA ++ VB⟩, by rw [hdd], by rw [hdd]; exact run_enter hFn hbody hname, fun _ _ => trivial, hcall.1, fun c cs hm hroom => ?_⟩⟩
    obtain ⟨e, u', w4, fr, ⟨rfl, V, rfl, σ4, e4⟩, hrest⟩ := hcall.2 c cs hm hroom
    exact ⟨_, _, w4, fr, hQ σ4 a2.tmps w4 (f2.mono (e4.mono e30.rep)) (e30.trans e4), hrest⟩
  show bodyPostM Fence.wide 0 P Fn R (exitOf (backK K o3)) a2 w2
  rcases hend with e | e <;> rw [e] <;> exact hgo
end Go.Ev

namespace Go.Ev
variable {P : Program}

/-! ## The compiler's word on a body that defers a call -/
theorem evOps_app {call : CallF} {os : List AO} : ∀ {l : List AO} {F F' : Fr} {S S' : St}, evOps (l ++ os) call F S = some (F', S') → ∃ F1 S1, evOps l call F S = some (F1, S1) ∧ evOps os call F1 S1 = some (F', S')
  | [], F, F', S, S', h => ⟨F, S, rfl, h⟩
  | o :: l, F, F', S, S', h => by
    rw [List.cons_append, evOps_cons] at h
    obtain ⟨⟨F1, S1⟩, h1, h2⟩ := osel_eq_some h
    obtain ⟨F2, S2, h3, h4⟩ := evOps_app h2
    refine ⟨F2, S2, ?_, h4⟩
    rw [evOps_cons, h1]
    exact h3
theorem cDefer_some {nt : Nat} {ops : Array Oper} {aos : List AO} {k id : Nat} (h : cDefer P nt ops = some (aos, k, id)) : ∃ l f ts ty pos after pre m a b, ops.toList = l ++ [⟨none, .defer ⟨.value f, #[], ts⟩, ty, pos, after, none⟩] ∧ cOpers P nt ops l [] = some aos ∧ cOpd P f = some (.t k) ∧ aos = pre ++ [⟨some k, .q (.mkFunc id a b), none, m⟩] := by
  unfold cDefer at h
  split at h
  · rename_i f as ts ty pos after l hl
    split at h
    · rename_i aos' k' haos hf has
      split at h
      · rename_i j id' a b m pre hpre
        rw [Bool.cond_eq_ite] at h
        split at h
        · rename_i hj
          rw [Nat.beq_eq] at hj
          subst hj
          cases h
          have e : as = #[] := by rw [← Array.toList_inj, has]
          subst e
          refine ⟨l.reverse, f, ts, ty, pos, after, pre.reverse, m, a, b, ?_, haos, hf, ?_⟩
          · have := congrArg List.reverse hl
            rw [List.reverse_reverse, List.reverse_cons] at this
            exact this
          · have := congrArg List.reverse hpre
            rw [List.reverse_reverse, List.reverse_cons] at this
            exact this
        · cases h
      · cases h
    · cases h
  · cases h
theorem cDf_sound {fns : T AFn} {Fn : Func} (hA : Asked P) (hB : BitsSound P) : ∀ (C : Code) (c : AC) (id : Nat), cDf P Fn.ntmps C = some (c, id) → (∃ Fnc fnc, fns.get id = some fnc ∧ P.funcs[id]? = some Fnc ∧ cFn P Fnc = some fnc ∧ noRng fnc.body = true) → DBody P fns Fn C c
  | .seq x y, c, id, h, hcl => by
    simp only [cDf] at h
    split at h
    · rename_i aos k id' hx
      split at h
      · rename_i cy hy
        rw [Bool.cond_eq_ite] at h
        split at h
        · rename_i hk
          cases h
          obtain ⟨k1, k2⟩ := and_true2 hk
          split at hx
          · rename_i rid ops
            obtain ⟨l, f, ts, ty, pos, after, pre, m, a, b, e1, e2, e3, rfl⟩ := cDefer_some hx
            obtain ⟨Fnc, fnc, g1, g2, g3, g4⟩ := hcl
            refine DBody.dfr hA hB e1 e2 e3 hy k1 k2 g1 g2 g3 g4 fun call F S F' S' hev => ?_
            obtain ⟨F1, S1, _, h2⟩ := evOps_app hev
            have h2 : some (putF (some k) F1 (AV.fn id (valsOf a F1) (valsOf b F1)), S1) = some (F', S') := h2
            cases h2
            exact ⟨_, _, by show tmpV k (F1.set k (some _)) = _; rw [tmpV_set, if_pos rfl]⟩
          · cases hx
        · cases h
      · cases h
    · split at h
      · rename_i cx cy id' hx hy
        rw [Bool.cond_eq_ite] at h
        split at h
        · rename_i hr
          cases h
          exact DBody.seq hx hr (cDf_sound hA hB y cy _ hy hcl)
        · cases h
      · cases h
  | .skip, c, id, h, _ => by cases h
  | .cond _ _ _, c, id, h, _ => by cases h
  | .block _ _, c, id, h, _ => by cases h
  | .loop _, c, id, h, _ => by cases h
  | .exit _, c, id, h, _ => by cases h
  | .ret, c, id, h, _ => by cases h
  | .region _ _ _, c, id, h, _ => by cases h
  | .rangeFunc _ _ _ _, c, id, h, _ => by cases h
  | .scope _, c, id, h, _ => by cases h
  | .label _, c, id, h, _ => by cases h
  | .goto _, c, id, h, _ => by cases h
  | .refuse _, c, id, h, _ => by cases h
/-- a row of the table is the program's, which defers the call of a closure -/
theorem dfrd_of {fns : T AFn} {id idc : Nat} {fn : AFn} {Fn : Func} (hA : Asked P) (hB : BitsSound P) (hFn : P.funcs[id]? = some Fn) (hc : cDfn P Fn = some (fn, idc)) (hcl : ∃ Fnc fnc, fns.get idc = some fnc ∧ P.funcs[idc]? = some Fnc ∧ cFn P Fnc = some fnc ∧ noRng fnc.body = true) : Dfrd P fns id fn := by
  unfold cDfn at hc
  rw [Bool.cond_eq_ite] at hc
  split at hc
  · cases hc
  · rename_i hname
    split at hc
    · rename_i C hbody
      split at hc
      · rename_i c i rs hC hrs
        cases hc
        exact ⟨Fn, C, rs, c, hFn, hbody, hname, hrs, rfl, cDf_sound hA hB C c _ hC hcl⟩
      · cases hc
    · cases hc
end Go.Ev

namespace Go.Ev

/-! ## What an operation reads -/
def Agree (l : List Nat) (F F' : Fr) : Prop := ∀ t ∈ l, tmpV t F = tmpV t F'
theorem Agree.left {l m : List Nat} {F F' : Fr} (h : Agree (l ++ m) F F') : Agree l F F' := fun t ht => h t (List.mem_append_left _ ht)
theorem Agree.right {l m : List Nat} {F F' : Fr} (h : Agree (l ++ m) F F') : Agree m F F' := fun t ht => h t (List.mem_append_right _ ht)

theorem val_congr {x : Opd} {F F' : Fr} (h : Agree x.rd F F') : x.val F = x.val F' := by
  cases x with
  | t i => exact h i (by simp [Opd.rd])
  | c v => rfl
theorem vals_congr {F F' : Fr} : ∀ {xs : List Opd}, Agree (rds xs) F F' → valsOf xs F = valsOf xs F'
  | [], _ => rfl
  | x :: xs, h => by
    show x.val F :: valsOf xs F = x.val F' :: valsOf xs F'
    rw [val_congr h.left, vals_congr h.right]
theorem optNat_congr {x : Option Opd} {F F' : Fr} (d : Nat) (h : Agree (rdo x) F F') : optNat F d x = optNat F' d x := by
  cases x with
  | none => rfl
  | some x => simp only [optNat]; rw [val_congr (show Agree x.rd F F' from h)]
theorem partsV_congr {F F' : Fr} : ∀ {ps : List (Nat × Nat × Opd)}, Agree (rdp ps) F F' → partsV F ps = partsV F' ps
  | [], _ => rfl
  | (a, b, x) :: ps, h => by
    simp only [partsV]
    rw [val_congr h.left, partsV_congr h.right]
theorem parts2V_congr {F F' : Fr} (s : Nat) : ∀ {ps : List (Nat × Opd)}, Agree (rdp2 ps) F F' → parts2V s F ps = parts2V s F' ps
  | [], _ => rfl
  | (a, x) :: ps, h => by
    simp only [parts2V]
    rw [val_congr h.left, parts2V_congr s h.right]
theorem bounds_congr {F F' : Fr} {lo hi mx : Option Opd} (a b : Nat) (h1 : Agree (rdo lo) F F') (h2 : Agree (rdo hi) F F') (h3 : Agree (rdo mx) F F') : bounds a b lo hi mx F = bounds a b lo hi mx F' := by
  simp only [bounds, optNat_congr _ h1, optNat_congr _ h2, optNat_congr _ h3]
theorem slcV_congr {F F' : Fr} {lo hi mx : Option Opd} (k : SlK) (v : AV) (h1 : Agree (rdo lo) F F') (h2 : Agree (rdo hi) F F') (h3 : Agree (rdo mx) F F') : slcV k v lo hi mx F = slcV k v lo hi mx F' := by
  unfold slcV
  split
  · simp only [slStr, optNat_congr _ h1, optNat_congr _ h2]
  · simp only [slSl, bounds_congr _ _ h1 h2 h3]
  · simp only [slNil, bounds_congr _ _ h1 h2 h3]
  · simp only [slEmp, bounds_congr _ _ h1 h2 h3]
  · simp only [slArr, bounds_congr _ _ h1 h2 h3]
  · rfl

theorem evQ_congr {q : QOp} {F F' : Fr} (h : Agree q.rd F F') (hp : T AB) : evQ q F hp = evQ q F' hp := by
  cases q with
  | mv x => show some (x.val F) = _; rw [val_congr (x := x) h]; rfl
  | pick c a b => show qPickB (c.val F) a b F = qPickB (c.val F') a b F'; simp only [qPickB, val_congr h.left, val_congr h.right.left, val_congr h.right.right]
  | build z ps => show osel (fillP z (partsV F ps)) _ = _; rw [partsV_congr h]; rfl
  | ld a n x => show qLdV (x.val F) a n hp = qLdV (x.val F') a n hp; rw [val_congr h]
  | nilchk x => show nilchkV (x.val F) = nilchkV (x.val F'); rw [val_congr h]
  | bin op e x y => show binV op e (x.val F) (y.val F) = binV op e (x.val F') (y.val F'); rw [val_congr h.left, val_congr h.right]
  | un op x => show unV op (x.val F) = unV op (x.val F'); rw [val_congr h]
  | conv k x => show convV k (x.val F) hp = convV k (x.val F') hp; rw [val_congr h]
  | mkIface t x => show some (AV.iface t (x.val F)) = some (AV.iface t (x.val F')); rw [val_congr h]
  | mkFunc f a b => show some (AV.fn f (valsOf a F) (valsOf b F)) = some (AV.fn f (valsOf a F') (valsOf b F')); rw [vals_congr h.left, vals_congr h.right]
  | slc k x lo hi mx => show slcV k (x.val F) lo hi mx F = slcV k (x.val F') lo hi mx F'; rw [val_congr h.left, slcV_congr k _ h.right.left h.right.right.left h.right.right.right]
  | faddr off x => show faddrV (x.val F) off = faddrV (x.val F') off; rw [val_congr h]
  | fld a off n x => show fldV (x.val F) a off n = fldV (x.val F') a off n; rw [val_congr h]
  | iaddr k x ix => show (osel (natOf (ix.val F)) fun i => iaddrV k (x.val F) i) = osel (natOf (ix.val F')) fun i => iaddrV k (x.val F') i; rw [val_congr h.left, val_congr h.right]
  | idxArr a n s x ix => show (osel (natOf (ix.val F)) fun i => idxArrV (x.val F) a n s i) = osel (natOf (ix.val F')) fun i => idxArrV (x.val F') a n s i; rw [val_congr h.left, val_congr h.right]
  | idxStr x ix => show (osel (natOf (ix.val F)) fun i => idxStrV (x.val F) i) = osel (natOf (ix.val F')) fun i => idxStrV (x.val F') i; rw [val_congr h.left, val_congr h.right]
  | lookup e z ok m k => show (osel (mapAt hp (m.val F)) fun es => osel (findKK e (k.val F) es) fun r => lookupV r z ok) = osel (mapAt hp (m.val F')) fun es => osel (findKK e (k.val F') es) fun r => lookupV r z ok; rw [val_congr h.left, val_congr h.right]
  | tassert t z ok x => show tassertV (x.val F) t z ok = tassertV (x.val F') t z ok; rw [val_congr h]
  | extract x i => show extractV (x.val F) i = extractV (x.val F') i; rw [val_congr h]
  | lenArr n => rfl
  | lenStr x => show lenStrV (x.val F) = lenStrV (x.val F'); rw [val_congr h]
  | lenSl x => show lenSlV (x.val F) = lenSlV (x.val F'); rw [val_congr h]
  | lenMap x => show (osel (mapAt hp (x.val F)) fun es => some (AV.int .i64 (.ofNat (lenL es)))) = osel (mapAt hp (x.val F')) fun es => some (AV.int .i64 (.ofNat (lenL es))); rw [val_congr h]
  | capSl x => show capSlV (x.val F) = capSlV (x.val F'); rw [val_congr h]
  | minmax m xs => show minmaxL m (valsOf xs F) = minmaxL m (valsOf xs F'); rw [vals_congr h]
  | mkMeth n tbl x => show some (AV.mth n tbl (x.val F)) = some (AV.mth n tbl (x.val F')); rw [val_congr h]

/-- what is no load does not look at the heap -/
theorem evQ_blind {q : QOp} (hq : isLoad q = false) (F : Fr) (h h' : T AB) : evQ q F h = evQ q F h' := by
  cases q with
  | ld a n x => cases hq
  | lookup e z ok m k => cases hq
  | lenMap x => cases hq
  | conv k x =>
    show convV k (x.val F) h = convV k (x.val F) h'
    cases k with
    | bytesToStr => cases hq
    | int k => cases x.val F <;> rfl
    | same => cases x.val F <;> rfl
    | intToStr =>
      cases x.val F with
      | int k n => cases n <;> rfl
      | _ => rfl
  | _ => rfl

theorem evA_congr {a : AlOp} {F F' : Fr} (h : Agree a.rd F F') (id : Nat) : evA a F id = evA a F' id := by
  cases a with
  | alloc t cs => rfl
  | box t x => show (osel (x.val F).cells fun cs => some (AV.ptr id 0, AB.cells cs false 0)) = osel (x.val F').cells fun cs => some (AV.ptr id 0, AB.cells cs false 0); rw [val_congr h]
  | bslice t s len z ps => show (osel (fillP (repeatL z len) (parts2V s F ps)) fun cs => some (AV.sl id 0 len len false, AB.cells cs false 0)) = osel (fillP (repeatL z len) (parts2V s F' ps)) fun cs => some (AV.sl id 0 len len false, AB.cells cs false 0); rw [parts2V_congr s h]
  | mkSlice t s by_ z l c =>
    show aMkSlice t s by_ z l c F id = aMkSlice t s by_ z l c F' id
    unfold aMkSlice; rw [val_congr h.left, val_congr h.right]
  | mkMap => rfl
  | strBytes t x => show strBytesV (x.val F) id = strBytesV (x.val F') id; rw [val_congr h]

theorem evX_congr {x : XOp} {F F' : Fr} (h : Agree x.rd F F') (call : CallF) (S : St) : evX x call F S = evX x call F' S := by
  cases x with
  | st n x v => show (osel (v.val F).cells fun cs => xStV (x.val F) n cs S) = osel (v.val F').cells fun cs => xStV (x.val F') n cs S; rw [val_congr h.left, val_congr h.right]
  | call f args => show call (f.val F) (valsOf args F) S = call (f.val F') (valsOf args F') S; rw [val_congr h.left, vals_congr h.right]
  | inv tbl f args => show invV (f.val F) tbl (valsOf args F) call S = invV (f.val F') tbl (valsOf args F') call S; rw [val_congr h.left, vals_congr h.right]
  | app t s b x y => show appendV b s (x.val F) (y.val F) S = appendV b s (x.val F') (y.val F') S; rw [val_congr h.left, val_congr h.right]
  | copy s d x => show (osel (lenOfS (x.val F)) fun m => copyV (d.val F) s m (x.val F) S) = osel (lenOfS (x.val F')) fun m => copyV (d.val F') s m (x.val F') S; rw [val_congr h.left, val_congr h.right]
  | mapUpd e m k v => show mapUpdV (m.val F) e (k.val F) (v.val F) S = mapUpdV (m.val F') e (k.val F') (v.val F') S; rw [val_congr h.left, val_congr h.right.left, val_congr h.right.right]
  | mapDel e m k => show mapDelV (m.val F) e (k.val F) S = mapDelV (m.val F') e (k.val F') S; rw [val_congr h.left, val_congr h.right]
  | clr z x => show clrV (x.val F) z S = clrV (x.val F') z S; rw [val_congr h]
  | ext k args => show (osel (extV k (valsOf args F)) fun v => some (v, S)) = osel (extV k (valsOf args F')) fun v => some (v, S); rw [vals_congr h]
  | bad => rfl

theorem wants_congr {g : Option (Nat × Bool)} {F F' : Fr} (h : Agree (g.map (·.1)).toList F F') : wants g F = wants g F' := by
  cases g with
  | none => rfl
  | some p => show isB (tmpV p.1 F) p.2 = isB (tmpV p.1 F') p.2; rw [h p.1 (by simp)]

/-! ## The check -/
theorem inL_iff {t : Nat} : ∀ {l : List Nat}, inL t l = true ↔ t ∈ l
  | [] => by simp [inL]
  | u :: l => by
    simp only [inL, Bool.cond_eq_ite, List.mem_cons]
    split
    · rename_i h; rw [Nat.beq_eq] at h; simp [h]
    · rename_i h; rw [Nat.beq_eq] at h; simp [h, inL_iff]
theorem meets_of {d : Option Nat} {t : Nat} {l : List Nat} (h : d = some t) (ht : t ∈ l) : meets d l = true := by subst h; exact inL_iff.2 ht

theorem drwOne_get {i : Nat} {d : Option Nat} {tch : List Nat} : ∀ {l : List AO}, drwOne i d tch l = true → ∀ {j : Nat} {b : AO}, l[j]? = some b → (meets d b.touch || meets b.dst tch) = true → Nat.testBit b.mask i = true
  | [], _, j, b, hb => by simp at hb
  | a :: l, h, j, b, hb => by
    intro hm
    simp only [drwOne, Bool.and_eq_true] at h
    cases j with
    | zero =>
      simp at hb; subst hb
      have h1 := h.1
      rw [hm] at h1
      exact h1
    | succ j => exact drwOne_get h.2 (by simpa using hb) hm
theorem drwGo_get : ∀ {l : List AO} {k : Nat}, drwGo k l = true → ∀ {i j : Nat} {a b : AO}, i < j → l[i]? = some a → l[j]? = some b → (meets a.dst b.touch || meets b.dst a.touch) = true → Nat.testBit b.mask (k + i) = true
  | [], k, _, i, j, a, b, _, ha => by simp at ha
  | c :: l, k, h, i, j, a, b, hij, ha => by
    intro hb hm
    simp only [drwGo, Bool.and_eq_true] at h
    cases j with
    | zero => omega
    | succ j =>
      cases i with
      | zero =>
        simp at ha; subst ha
        exact drwOne_get h.1 (by simpa using hb) hm
      | succ i =>
        have := drwGo_get h.2 (i := i) (j := j) (by omega) (by simpa using ha) (by simpa using hb) hm
        rwa [show k + 1 + i = k + (i + 1) by omega] at this
theorem edgesGo_get : ∀ {l : List Oper} {k : Nat}, edgesGo k l = true → ∀ {i : Nat} {o : Oper}, l[i]? = some o → ∀ e ∈ o.after, Region.binds .any e = true → e.on < k + i
  | [], k, _, i, o, ho => by simp at ho
  | c :: l, k, h, i, o, ho => by
    intro e he hb
    simp only [edgesGo, Bool.and_eq_true] at h
    cases i with
    | zero =>
      simp at ho; subst ho
      have h1 := Array.all_eq_true'.1 h.1 e he
      simp only [hb, Bool.not_true, Bool.false_or] at h1
      exact Nat.le_of_ble_eq_true h1
    | succ i =>
      have := edgesGo_get h.2 (by simpa using ho) e he hb
      omega
end Go.Ev

namespace Go.Ev

/-! ## The run in the order of the text -/
structure Tr (aos : List AO) (base : Nat) (call : CallF) (Ds : Nat → DS) : Prop where
  step : ∀ i o, aos[i]? = some o → evD o i base call (Ds i) = some (Ds (i + 1))

theorem evDs_trace {base : Nat} {call : CallF} : ∀ {l : List AO} {k : Nat} {D D' : DS}, evDs l k base call D = some D' →
    ∃ Ds : Nat → DS, Ds k = D ∧ (∀ i o, l[i]? = some o → evD o (k + i) base call (Ds (k + i)) = some (Ds (k + i + 1))) ∧ Ds (k + l.length) = D'
  | [], k, D, D', h => by
    simp only [evDs, Option.some.injEq] at h
    exact ⟨fun _ => D, rfl, fun i o ho => by simp at ho, h⟩
  | o :: l, k, D, D', h => by
    simp only [evDs] at h
    obtain ⟨D1, h1, h2⟩ := osel_eq_some h
    obtain ⟨Ds, e1, e2, e3⟩ := evDs_trace h2
    refine ⟨fun i => if i = k then D else Ds i, by simp, ?_, ?_⟩
    · intro i o' ho
      cases i with
      | zero =>
        simp at ho; subst ho
        simp only [Nat.add_zero, if_true]
        rw [if_neg (by omega), e1]
        exact h1
      | succ i =>
        have := e2 i o' (by simpa using ho)
        rw [show k + (i + 1) = k + 1 + i by omega]
        simp only []
        rw [if_neg (by omega), if_neg (by omega)]
        exact this
    · simp only [List.length_cons]
      rw [if_neg (by omega), show k + (l.length + 1) = k + 1 + l.length by omega]
      exact e3

section
variable {aos : List AO} {base : Nat} {call : CallF} {Ds : Nat → DS}

/-- how an operation goes in the run -/
inductive Kind (base : Nat) (call : CallF) (D D' : DS) (i : Nat) (o : AO) : Prop where
  | no (hw : wants o.grd D.F = false) (e : D' = ⟨putF o.dst D.F .undef, D.S, D.ps, D.hs, D.ls⟩)
  | q (q : QOp) (v : AV) (hw : wants o.grd D.F = true) (ho : o.op = .q q) (hv : evQ q D.F D.S.h = some v)
      (e : D' = ⟨putF o.dst D.F v, D.S, D.ps, D.hs, bsel (isLoad q) (⟨q, D.F, v, i, o.mask⟩ :: D.ls) D.ls⟩)
  | a (a : AlOp) (v : AV) (b : AB) (hw : wants o.grd D.F = true) (ho : o.op = .a a) (hv : evA a D.F (base + i) = some (v, b))
      (e : D' = ⟨putF o.dst D.F v, D.S, ⟨i, base + i, b⟩ :: D.ps, D.hs, D.ls⟩)
  | x (x : XOp) (v : AV) (S : St) (hw : wants o.grd D.F = true) (ho : o.op = .x x) (hl : lastOk D.hs o.mask = true)
      (hv : evX x call D.F ⟨(flush o.mask D.ps D.S.h).2, D.S.nx⟩ = some (v, S))
      (e : D' = ⟨putF o.dst D.F v, S, (flush o.mask D.ps D.S.h).1, (i, o.mask, S.h) :: D.hs, D.ls⟩)

theorem Tr.kind (h : Tr aos base call Ds) {i : Nat} {o : AO} (ho : aos[i]? = some o) : Kind base call (Ds i) (Ds (i + 1)) i o := by
  have h1 := h.step i o ho
  unfold evD at h1
  rw [bsel_eq] at h1
  split at h1
  · rename_i hw
    cases hop : o.op with
    | q q =>
      rw [hop] at h1
      obtain ⟨v, h2, h3⟩ := osel_eq_some (show (osel (evQ q (Ds i).F (Ds i).S.h) fun v => some (⟨putF o.dst (Ds i).F v, (Ds i).S, (Ds i).ps, (Ds i).hs, bsel (isLoad q) (⟨q, (Ds i).F, v, i, o.mask⟩ :: (Ds i).ls) (Ds i).ls⟩ : DS)) = some (Ds (i + 1)) from h1)
      exact .q q v hw hop h2 (Option.some.inj h3).symm
    | a a =>
      rw [hop] at h1
      obtain ⟨⟨v, b⟩, h2, h3⟩ := osel_eq_some (show (osel (evA a (Ds i).F (base + i)) fun r => some (⟨putF o.dst (Ds i).F r.1, (Ds i).S, ⟨i, base + i, r.2⟩ :: (Ds i).ps, (Ds i).hs, (Ds i).ls⟩ : DS)) = some (Ds (i + 1)) from h1)
      exact .a a v b hw hop h2 (Option.some.inj h3).symm
    | x x =>
      rw [hop] at h1
      obtain ⟨h4, h1⟩ := bsel_some (show bsel (lastOk (Ds i).hs o.mask) (osel (evX x call (Ds i).F ⟨(flush o.mask (Ds i).ps (Ds i).S.h).2, (Ds i).S.nx⟩) fun r =>
        some (⟨putF o.dst (Ds i).F r.1, r.2, (flush o.mask (Ds i).ps (Ds i).S.h).1, (i, o.mask, r.2.h) :: (Ds i).hs, (Ds i).ls⟩ : DS)) none = some (Ds (i + 1)) from h1)
      obtain ⟨⟨v, S⟩, h2, h3⟩ := osel_eq_some h1
      exact .x x v S hw hop h4 h2 (Option.some.inj h3).symm
  · rename_i hw
    exact .no (by simpa using hw) (Option.some.inj h1).symm

/-- a chain operation that is carried out -/
def Chain (aos : List AO) (Ds : Nat → DS) (c : Nat) : Prop := ∃ o x, aos[c]? = some o ∧ o.op = .x x ∧ wants o.grd (Ds c).F = true

theorem putF_other {d : Option Nat} {F : Fr} {v : AV} {t : Nat} (h : d ≠ some t) : tmpV t (putF d F v) = tmpV t F := by
  cases d with
  | none => rfl
  | some d => show tmpV t (F.set d (some v)) = _; rw [tmpV_set, if_neg (fun e => h (by rw [e]))]
theorem putF_same {d : Nat} {F : Fr} {v : AV} : tmpV d (putF (some d) F v) = v := by
  show tmpV d (F.set d (some v)) = _
  rw [tmpV_set, if_pos rfl]

theorem Tr.slot_step (h : Tr aos base call Ds) {i t : Nat} {o : AO} (ho : aos[i]? = some o) (hd : o.dst ≠ some t) : tmpV t (Ds (i + 1)).F = tmpV t (Ds i).F := by
  cases h.kind ho with
  | no hw e => rw [e]; exact putF_other hd
  | q q v hw ho' hv e => rw [e]; exact putF_other hd
  | a a v b hw ho' hv e => rw [e]; exact putF_other hd
  | x x v S hw ho' hl hv e => rw [e]; exact putF_other hd

theorem Tr.slot_keep (h : Tr aos base call Ds) {t i : Nat} : ∀ {k : Nat}, i ≤ k → k ≤ aos.length → (∀ j o, i ≤ j → j < k → aos[j]? = some o → o.dst ≠ some t) → tmpV t (Ds k).F = tmpV t (Ds i).F := by
  intro k
  induction k with
  | zero => intro h1 _ _; rw [Nat.le_zero.1 h1]
  | succ k ih =>
    intro h1 h2 h3
    rcases Nat.lt_or_ge k i with h4 | h4
    · rw [show i = k + 1 by omega]
    · rw [← ih h4 (by omega) (fun j o a b c => h3 j o a (by omega) c)]
      have ho : aos[k]? = some aos[k] := List.getElem?_eq_getElem (by omega)
      exact h.slot_step ho (h3 k _ h4 (by omega) ho)

theorem Tr.heap_step (h : Tr aos base call Ds) {i : Nat} (hi : i < aos.length) (hc : ¬ Chain aos Ds i) : (Ds (i + 1)).S = (Ds i).S ∧ (Ds (i + 1)).hs = (Ds i).hs := by
  have ho : aos[i]? = some aos[i] := List.getElem?_eq_getElem hi
  cases h.kind ho with
  | no hw e => rw [e]; exact ⟨rfl, rfl⟩
  | q q v hw ho' hv e => rw [e]; exact ⟨rfl, rfl⟩
  | a a v b hw ho' hv e => rw [e]; exact ⟨rfl, rfl⟩
  | x x v S hw ho' hl hv e => exact absurd ⟨_, x, ho, ho', hw⟩ hc

theorem Tr.heap_keep (h : Tr aos base call Ds) {i : Nat} : ∀ {k : Nat}, i ≤ k → k ≤ aos.length → (∀ j, i ≤ j → j < k → ¬ Chain aos Ds j) → (Ds k).S = (Ds i).S ∧ (Ds k).hs = (Ds i).hs := by
  intro k
  induction k with
  | zero => intro h1 _ _; rw [Nat.le_zero.1 h1]; exact ⟨rfl, rfl⟩
  | succ k ih =>
    intro h1 h2 h3
    rcases Nat.lt_or_ge k i with h4 | h4
    · rw [show i = k + 1 by omega]; exact ⟨rfl, rfl⟩
    · obtain ⟨a1, a2⟩ := ih h4 (by omega) (fun j a b => h3 j a (by omega))
      obtain ⟨b1, b2⟩ := h.heap_step (show k < aos.length by omega) (h3 k h4 (by omega))
      exact ⟨b1.trans a1, b2.trans a2⟩

theorem Tr.chain_hs (h : Tr aos base call Ds) {c : Nat} {o : AO} (ho : aos[c]? = some o) (hc : Chain aos Ds c) : (Ds (c + 1)).hs = (c, o.mask, (Ds (c + 1)).S.h) :: (Ds c).hs ∧ lastOk (Ds c).hs o.mask = true := by
  obtain ⟨o', x, h1, h2, h3⟩ := hc
  rw [ho] at h1; cases h1
  cases h.kind ho with
  | no hw e => rw [h3] at hw; cases hw
  | q q v hw ho' hv e => rw [h2] at ho'; cases ho'
  | a a v b hw ho' hv e => rw [h2] at ho'; cases ho'
  | x x v S hw ho' hl hv e => rw [e]; exact ⟨rfl, hl⟩

/-- the last chain operation before k -/
theorem Tr.head (h : Tr aos base call Ds) (h0 : (Ds 0).hs = []) : ∀ k, k ≤ aos.length → (∀ c, c < k → ¬ Chain aos Ds c) ∨ ∃ p m hp r, p < k ∧ Chain aos Ds p ∧ (Ds k).hs = (p, m, hp) :: r ∧ ∀ c, p < c → c < k → ¬ Chain aos Ds c := by
  intro k
  induction k with
  | zero => intro _; exact .inl (fun c hc => by omega)
  | succ k ih =>
    intro hk
    by_cases hc : Chain aos Ds k
    · have ho : aos[k]? = some aos[k] := List.getElem?_eq_getElem (by omega)
      exact .inr ⟨k, _, _, _, Nat.lt_succ_self k, hc, (h.chain_hs ho hc).1, fun c h1 h2 => by omega⟩
    · obtain ⟨_, e2⟩ := h.heap_step (show k < aos.length by omega) hc
      rcases ih (by omega) with h1 | ⟨p, m, hp, r, h1, h2, h3, h4⟩
      · refine .inl (fun c hlt => ?_)
        rcases Nat.lt_or_ge c k with h5 | h5
        · exact h1 c h5
        · rw [show c = k by omega]; exact hc
      · refine .inr ⟨p, m, hp, r, by omega, h2, e2.trans h3, fun c h5 h6 => ?_⟩
        rcases Nat.lt_or_ge c k with h7 | h7
        · exact h4 c h5 h7
        · rw [show c = k by omega]; exact hc

/-- the chain operations stand one before the other -/
theorem Tr.before (h : Tr aos base call Ds) (h0 : (Ds 0).hs = []) {D : Nat → Prop} (hD : ∀ j o, D j → aos[j]? = some o → ∀ i, Nat.testBit o.mask i = true → D i) :
    ∀ k, k < aos.length → ∀ o, aos[k]? = some o → Chain aos Ds k → (∀ i, Nat.testBit o.mask i = true → D i) → ∀ c, c < k → Chain aos Ds c → D c := by
  intro k
  induction k using Nat.strongRecOn with
  | _ k ih =>
    intro hk o ho hc hm c hlt hcc
    obtain ⟨_, hl⟩ := h.chain_hs ho hc
    rcases h.head h0 k (by omega) with h1 | ⟨p, m, hp, r, h1, h2, h3, h4⟩
    · exact absurd hcc (h1 c hlt)
    · rw [h3] at hl
      have hp' : D p := hm p hl
      rcases Nat.lt_trichotomy c p with h5 | h5 | h5
      · have hop : aos[p]? = some aos[p] := List.getElem?_eq_getElem (by omega)
        exact ih p h1 (by omega) _ hop h2 (hD p _ hp' hop) c h5 hcc
      · rw [h5]; exact hp'
      · exact absurd hcc (h4 c h5 hlt)

/-! ### the loads -/
theorem Tr.loads_mono (h : Tr aos base call Ds) {i : Nat} : ∀ {k : Nat}, i ≤ k → k ≤ aos.length → ∀ l ∈ (Ds i).ls, l ∈ (Ds k).ls := by
  intro k
  induction k with
  | zero => intro h1 _ l hl; rw [Nat.le_zero.1 h1] at hl; exact hl
  | succ k ih =>
    intro h1 h2 l hl
    rcases Nat.lt_or_ge k i with h4 | h4
    · rw [show k + 1 = i by omega]; exact hl
    · have := ih h4 (by omega) l hl
      have ho : aos[k]? = some aos[k] := List.getElem?_eq_getElem (by omega)
      cases h.kind ho with
      | no hw e => rw [e]; exact this
      | q q v hw ho' hv e => rw [e, bsel_eq]; simp only; split <;> simp [this]
      | a a v b hw ho' hv e => rw [e]; exact this
      | x x v S hw ho' hl hv e => rw [e]; exact this

theorem loadsOk_mem {h0 : T AB} {hs : List (Nat × Nat × T AB)} : ∀ {ls : List Loaded}, loadsOk h0 hs ls = true → ∀ l ∈ ls, loadGo l hs h0 = true
  | [], _, l, hl => by simp at hl
  | m :: ls, h, l, hl => by
    simp only [loadsOk, bsel_eq] at h
    split at h
    · rename_i h1
      rcases List.mem_cons.1 hl with rfl | h2
      · exact h1
      · exact loadsOk_mem h l h2
    · cases h

theorem Tr.hs_split (h : Tr aos base call Ds) : ∀ d k, k + d = aos.length → ∃ r, (Ds aos.length).hs.reverse = (Ds k).hs.reverse ++ r ∧ ∀ e ∈ r, k ≤ e.1 ∧ Chain aos Ds e.1 := by
  intro d
  induction d with
  | zero => intro k hk; exact ⟨[], by rw [show aos.length = k by omega]; simp, by simp⟩
  | succ d ih =>
    intro k hk
    obtain ⟨r, h1, h2⟩ := ih (k + 1) (by omega)
    by_cases hc : Chain aos Ds k
    · have ho : aos[k]? = some aos[k] := List.getElem?_eq_getElem (by omega)
      refine ⟨(k, aos[k].mask, (Ds (k + 1)).S.h) :: r, ?_, ?_⟩
      · rw [h1, (h.chain_hs ho hc).1]; simp
      · intro e he
        rcases List.mem_cons.1 he with rfl | he
        · exact ⟨Nat.le_refl _, hc⟩
        · exact ⟨by have := (h2 e he).1; omega, (h2 e he).2⟩
    · refine ⟨r, by rw [h1, (h.heap_step (by omega) hc).2], fun e he => ⟨by have := (h2 e he).1; omega, (h2 e he).2⟩⟩

/-- a load gives the same wherever it may stand -/
theorem Tr.load (h : Tr aos base call Ds) (h0 : (Ds 0).hs = []) (hok : loadsOk (Ds 0).S.h (Ds aos.length).hs.reverse (Ds aos.length).ls = true) {l : Loaded} (hl : l ∈ (Ds aos.length).ls) {D : Nat → Prop}
    (hD : ∀ j o, D j → aos[j]? = some o → ∀ i, Nat.testBit o.mask i = true → D i) (hm : ∀ i, Nat.testBit l.mask i = true → D i) (hi : ¬ D l.i) {s : Nat} (hs : s ≤ aos.length) (hc : ∀ c, Chain aos Ds c → (D c ↔ c < s)) :
    sameO l.v (evQ l.q l.F (Ds s).S.h) = true := by
  have hgo := loadsOk_mem hok l hl
  have key : ∀ k, k ≤ s → ∀ r, (Ds aos.length).hs.reverse = (Ds k).hs.reverse ++ r → loadGo l r (Ds k).S.h = true := by
    intro k
    induction k with
    | zero =>
      intro _ r hr
      rw [h0] at hr
      simp at hr
      rw [← hr]; exact hgo
    | succ k ih =>
      intro hk r hr
      by_cases hck : Chain aos Ds k
      · have ho : aos[k]? = some aos[k] := List.getElem?_eq_getElem (by omega)
        have h1 := (h.chain_hs ho hck).1
        have h2 := ih (by omega) ((k, aos[k].mask, (Ds (k + 1)).S.h) :: r) (by rw [hr, h1]; simp)
        have hDk : D k := (hc k hck).2 (by omega)
        have hbit : Nat.testBit aos[k].mask l.i = false := by
          cases hb : Nat.testBit aos[k].mask l.i with
          | false => rfl
          | true => exact absurd (hD k _ hDk ho _ hb) hi
        simp only [loadGo, bsel_eq, hbit] at h2
        split at h2
        · exact h2
        · split at h2
          · simpa using h2
          · cases h2
      · obtain ⟨e1, e2⟩ := h.heap_step (show k < aos.length by omega) hck
        rw [e1]
        exact ih (by omega) r (by rw [hr, e2])
  obtain ⟨r, h1, h2⟩ := h.hs_split (aos.length - s) s (by omega)
  have h3 := key s (Nat.le_refl _) r h1
  cases r with
  | nil => exact h3
  | cons e r =>
    obtain ⟨c, m, hp⟩ := e
    obtain ⟨h4, h5⟩ := h2 (c, m, hp) (by simp)
    have hbit : Nat.testBit l.mask c = false := by
      cases hb : Nat.testBit l.mask c with
      | false => rfl
      | true => have := (hc c h5).1 (hm c hb); simp only at h4; omega
    simp only [loadGo, bsel_eq, hbit] at h3
    by_cases h6 : sameO l.v (evQ l.q l.F (Ds s).S.h) = true
    · exact h6
    · rw [if_neg (by simp), if_neg h6] at h3; cases h3
end

theorem strEq_id : ∀ {a b : List Nat}, strEq a b = true → a = b
  | [], [], _ => rfl
  | [], _ :: _, h => by simp [strEq] at h
  | _ :: _, [], h => by simp [strEq] at h
  | a :: x, b :: y, h => by
    simp only [strEq, bsel_eq] at h
    split at h
    · rename_i h1; rw [Nat.eq_of_beq_eq_true h1, strEq_id h]
    · cases h
mutual
theorem sameV_eq : ∀ (a b : AV), sameV a b = true → a = b
  | .bool a, v, h => by cases v <;> simp only [sameV, beq2_eq, Bool.false_eq_true] at h; rw [eq_of_beq h]
  | .int k a, v, h => by
    cases v <;> simp only [sameV, bsel_eq, Bool.false_eq_true] at h
    split at h
    · rename_i h1; rw [keq_eq h1]; rw [ieq_eq] at h; rw [eq_of_beq h]
    · cases h
  | .str a, v, h => by cases v <;> simp only [sameV, Bool.false_eq_true] at h; rw [strEq_id h]
  | .ptr a b, v, h => by
    cases v <;> simp only [sameV, bsel_eq, Bool.false_eq_true] at h
    split at h
    · rename_i h1; rw [Nat.eq_of_beq_eq_true h1, Nat.eq_of_beq_eq_true h]
    · cases h
  | .nilp, v, h => by cases v <;> first | rfl | simp only [sameV, Bool.false_eq_true] at h
  | .sl a b c d e, v, h => by
    cases v <;> simp only [sameV, Bool.false_eq_true, Bool.and_eq_true, beq2_eq] at h
    obtain ⟨⟨⟨⟨h1, h2⟩, h3⟩, h4⟩, h5⟩ := h
    rw [Nat.eq_of_beq_eq_true h1, Nat.eq_of_beq_eq_true h2, Nat.eq_of_beq_eq_true h3, Nat.eq_of_beq_eq_true h4, eq_of_beq h5]
  | .nilsl, v, h => by cases v <;> first | rfl | simp only [sameV, Bool.false_eq_true] at h
  | .emp, v, h => by cases v <;> first | rfl | simp only [sameV, Bool.false_eq_true] at h
  | .map a, v, h => by cases v <;> simp only [sameV, Bool.false_eq_true] at h; rw [Nat.eq_of_beq_eq_true h]
  | .nilmap, v, h => by cases v <;> first | rfl | simp only [sameV, Bool.false_eq_true] at h
  | .fn f a b, v, h => by
    cases v <;> simp only [sameV, Bool.false_eq_true, Bool.and_eq_true] at h
    obtain ⟨⟨h1, h2⟩, h3⟩ := h
    rw [Nat.eq_of_beq_eq_true h1, sameVs_eq _ _ h2, sameVs_eq _ _ h3]
  | .nilfn, v, h => by cases v <;> first | rfl | simp only [sameV, Bool.false_eq_true] at h
  | .yld a, v, h => by cases v <;> simp only [sameV, Bool.false_eq_true] at h; rw [Nat.eq_of_beq_eq_true h]
  | .iface t w, v, h => by
    cases v <;> simp only [sameV, Bool.false_eq_true, Bool.and_eq_true] at h
    rw [Nat.eq_of_beq_eq_true h.1, sameV_eq _ _ h.2]
  | .niliface, v, h => by cases v <;> first | rfl | simp only [sameV, Bool.false_eq_true] at h
  | .mth n t w, v, h => by cases v <;> simp only [sameV, Bool.false_eq_true] at h
  | .agg a, v, h => by cases v <;> simp only [sameV, Bool.false_eq_true] at h; rw [sameVs_eq _ _ h]
  | .tup a, v, h => by cases v <;> simp only [sameV, Bool.false_eq_true] at h; rw [sameVs_eq _ _ h]
theorem sameVs_eq : ∀ (a b : List AV), sameVs a b = true → a = b
  | [], [], _ => rfl
  | [], _ :: _, h => by simp [sameVs] at h
  | _ :: _, [], h => by simp [sameVs] at h
  | a :: x, b :: y, h => by
    simp only [sameVs, bsel_eq] at h
    split at h
    · rename_i h1; rw [sameV_eq _ _ h1, sameVs_eq _ _ h]
    · cases h
end
theorem sameO_eq {v : AV} {r : Option AV} (h : sameO v r = true) : r = some v := by
  cases r with
  | none => cases h
  | some w => rw [sameV_eq _ _ h]
end Go.Ev

namespace Go.Ev

/-! ## Masks -/
section
variable {D : Nat → Prop}
theorem one_bits {look : Nat → Nat} {o : Oper} (h : ∀ e ∈ o.after, Region.binds .any e = true → D e.on ∧ ∀ b, Nat.testBit (look e.on) b = true → D b) : ∀ b, Nat.testBit (CheckFast.one look o) b = true → D b := by
  unfold CheckFast.one
  rw [← Array.foldl_toList]
  have key : ∀ (l : List Edge) (s : Nat), (∀ e ∈ l, Region.binds .any e = true → D e.on ∧ ∀ b, Nat.testBit (look e.on) b = true → D b) → (∀ b, Nat.testBit s b = true → D b) →
      ∀ b, Nat.testBit (l.foldl (fun s e => if Region.binds .any e then s ||| 2 ^ e.on ||| look e.on else s) s) b = true → D b := by
    intro l
    induction l with
    | nil => intro s _ hs b hb; exact hs b hb
    | cons e l ih =>
      intro s hl hs b hb
      rw [List.foldl_cons] at hb
      refine ih _ (fun e' he' => hl e' (List.mem_cons_of_mem _ he')) ?_ b hb
      intro c hc
      split at hc
      · rename_i hbi
        obtain ⟨h1, h2⟩ := hl e (by simp) hbi
        rw [Nat.testBit_or, Nat.testBit_or, Bool.or_eq_true, Bool.or_eq_true] at hc
        rcases hc with (hc | hc) | hc
        · exact hs c hc
        · rw [Nat.testBit_two_pow] at hc
          have : e.on = c := by simpa using hc
          rw [← this]; exact h1
        · exact h2 c hc
      · exact hs c hc
  exact key o.after.toList 0 (fun e he => h e (by simpa using he)) (fun b hb => by simp at hb)

theorem beforeL_bits : ∀ (l : List Oper) (j : Nat) (acc : List Nat), acc.length = j → (∀ i, i < j → D i → ∀ b, Nat.testBit (acc.getD (j - 1 - i) 0) b = true → D b) →
    (∀ k o, l[k]? = some o → D (j + k) → ∀ e ∈ o.after, Region.binds .any e = true → D e.on) →
    (∀ i, i < j → (CheckFast.beforeL l j acc).getD i 0 = acc.getD (j - 1 - i) 0) ∧
    ∀ k o, l[k]? = some o → (∀ e ∈ o.after, Region.binds .any e = true → D e.on) → ∀ b, Nat.testBit ((CheckFast.beforeL l j acc).getD (j + k) 0) b = true → D b
  | [], j, acc, hl, _, _ => by
    refine ⟨fun i hi => ?_, fun k o ho => by simp at ho⟩
    simp only [CheckFast.beforeL]
    rw [List.getD_eq_getElem?_getD, List.getD_eq_getElem?_getD, List.getElem?_reverse (by omega), hl]
  | o :: l, j, acc, hl, hacc, hcl => by
    simp only [CheckFast.beforeL, CheckFast.force_eq]
    have hv : (∀ e ∈ o.after, Region.binds .any e = true → D e.on) → ∀ b, Nat.testBit (CheckFast.one (fun i => if i < j then acc.getD (j - 1 - i) 0 else 0) o) b = true → D b := by
      intro hp
      refine one_bits fun e he hb => ⟨hp e he hb, fun b hbit => ?_⟩
      split at hbit
      · exact hacc _ ‹_› (hp e he hb) b hbit
      · simp at hbit
    have := beforeL_bits l (j + 1) (CheckFast.one (fun i => if i < j then acc.getD (j - 1 - i) 0 else 0) o :: acc) (by simp [hl]) ?_ ?_
    · obtain ⟨h1, h2⟩ := this
      refine ⟨fun i hi => ?_, fun k o' ho hp b hb => ?_⟩
      · rw [h1 i (by omega), show j + 1 - 1 - i = (j - 1 - i) + 1 by omega]; simp
      · cases k with
        | zero =>
          simp at ho; subst ho
          have h3 := h1 j (by omega)
          rw [show j + 1 - 1 - j = 0 by omega] at h3
          refine hv hp b ?_
          rw [show j + 0 = j from rfl, h3] at hb
          exact hb
        | succ k =>
          refine h2 k o' (by simpa using ho) hp b ?_
          rwa [show j + 1 + k = j + (k + 1) by omega]
    · intro i hi hDi b hb
      rcases Nat.lt_or_ge i j with h3 | h3
      · rw [show j + 1 - 1 - i = (j - 1 - i) + 1 by omega] at hb
        exact hacc i h3 hDi b (by simpa using hb)
      · have : i = j := by omega
        subst this
        rw [show i + 1 - 1 - i = 0 by omega] at hb
        exact hv (hcl 0 o (by simp) (by simpa using hDi)) b (by simpa using hb)
    · intro k o' ho hDk
      exact hcl (k + 1) o' (by simpa using ho) (by rwa [show j + (k + 1) = j + 1 + k by omega])
end

theorem cOpers_get {P : Program} {nt : Nat} {ops : Array Oper} : ∀ {l : List Oper} {ms : List Nat} {aos : List AO}, cOpers P nt ops l ms = some aos →
    aos.length = l.length ∧ ∀ j o, l[j]? = some o → ∃ ao, aos[j]? = some ao ∧ cOper P nt ops o (ms.getD j 0) = some ao
  | [], ms, aos, h => by
    simp only [cOpers, Option.some.injEq] at h
    subst h
    exact ⟨rfl, fun j o ho => by simp at ho⟩
  | o :: l, ms, aos, h => by
    simp only [cOpers] at h
    split at h
    · rename_i a as ha has
      cases h
      obtain ⟨h1, h2⟩ := cOpers_get has
      refine ⟨by simp [h1], fun j o' ho => ?_⟩
      cases j with
      | zero =>
        simp at ho; subst ho
        refine ⟨a, by simp, ?_⟩
        cases ms <;> simpa using ha
      | succ j =>
        obtain ⟨ao, h3, h4⟩ := h2 j o' (by simpa using ho)
        refine ⟨ao, by simpa using h3, ?_⟩
        cases ms <;> simpa using h4
    · cases h

/-! ## What is made and not yet laid -/
theorem flush_snd {m : Nat} : ∀ {ps : List Pend} {h : T AB} {b : Nat} {bl : AB}, (flush m ps h).2.get b = some bl → (∃ p ∈ ps, Nat.testBit m p.i = true ∧ p.id = b ∧ p.b = bl) ∨ h.get b = some bl
  | [], h, b, bl, e => .inr e
  | p :: ps, h, b, bl, e => by
    simp only [flush, bsel_eq] at e
    split at e
    · rename_i hb
      rcases flush_snd e with ⟨q, h1, h2⟩ | h1
      · exact .inl ⟨q, by simp [h1], h2⟩
      · rw [T.get_set] at h1
        split at h1
        · rename_i e'; cases h1; exact .inl ⟨p, by simp, hb, e'.symm, rfl⟩
        · exact .inr h1
    · rcases flush_snd e with ⟨q, h1, h2⟩ | h1
      · exact .inl ⟨q, by simp [h1], h2⟩
      · exact .inr h1
theorem flush_fst {m : Nat} : ∀ {ps : List Pend} {h : T AB} {p : Pend}, p ∈ (flush m ps h).1 → p ∈ ps ∧ Nat.testBit m p.i = false
  | [], h, p, e => by simp [flush] at e
  | q :: ps, h, p, e => by
    simp only [flush, bsel_eq] at e
    split at e
    · obtain ⟨h1, h2⟩ := flush_fst e; exact ⟨by simp [h1], h2⟩
    · rename_i hb
      rcases List.mem_cons.1 e with rfl | e
      · exact ⟨by simp, by simpa using hb⟩
      · obtain ⟨h1, h2⟩ := flush_fst e; exact ⟨by simp [h1], h2⟩

section
variable {aos : List AO} {base : Nat} {call : CallF} {Ds : Nat → DS}

def Made (aos : List AO) (base : Nat) (Ds : Nat → DS) (i : Nat) (b : AB) : Prop := ∃ o a v, aos[i]? = some o ∧ o.op = .a a ∧ wants o.grd (Ds i).F = true ∧ evA a (Ds i).F (base + i) = some (v, b)
def Laid (aos : List AO) (Ds : Nat → DS) (i s : Nat) : Prop := ∃ c o, c < s ∧ Chain aos Ds c ∧ aos[c]? = some o ∧ Nat.testBit o.mask i = true

theorem Tr.pend (h : Tr aos base call Ds) (h0 : (Ds 0).ps = []) (hb : ∀ k o i, aos[k]? = some o → Nat.testBit o.mask i = true → i < k) : ∀ k, k ≤ aos.length → ∀ p ∈ (Ds k).ps, p.i < k ∧ p.id = base + p.i ∧ Made aos base Ds p.i p.b ∧ ¬ Laid aos Ds p.i k := by
  intro k
  induction k with
  | zero => intro _ p hp; rw [h0] at hp; cases hp
  | succ k ih =>
    intro hk p hp
    have ho : aos[k]? = some aos[k] := List.getElem?_eq_getElem (by omega)
    have old : ¬ Chain aos Ds k → p ∈ (Ds k).ps → p.i < k + 1 ∧ p.id = base + p.i ∧ Made aos base Ds p.i p.b ∧ ¬ Laid aos Ds p.i (k + 1) := by
      intro hc hp
      obtain ⟨a1, a2, a3, a4⟩ := ih (by omega) p hp
      refine ⟨by omega, a2, a3, ?_⟩
      rintro ⟨c, o, h1, h2, h3⟩
      rcases Nat.lt_or_ge c k with h4 | h4
      · exact a4 ⟨c, o, h4, h2, h3⟩
      · rw [show c = k by omega] at h2; exact hc h2
    cases h.kind ho with
    | no hw e => rw [e] at hp; exact old (fun ⟨o, x, h1, h2, h3⟩ => by rw [ho] at h1; cases h1; rw [hw] at h3; cases h3) hp
    | q q v hw ho' hv e => rw [e] at hp; exact old (fun ⟨o, x, h1, h2, h3⟩ => by rw [ho] at h1; cases h1; rw [ho'] at h2; cases h2) hp
    | a a v b hw ho' hv e =>
      have hnc : ¬ Chain aos Ds k := fun ⟨o, x, h1, h2, h3⟩ => by rw [ho] at h1; cases h1; rw [ho'] at h2; cases h2
      rw [e] at hp
      rcases List.mem_cons.1 hp with rfl | hp
      · refine ⟨Nat.lt_succ_self _, rfl, ⟨_, a, v, ho, ho', hw, hv⟩, ?_⟩
        rintro ⟨c, o, h1, h2, h3, h4⟩
        have := hb c o _ h3 h4
        simp only at this
        omega
      · exact old hnc hp
    | x x v S hw ho' hl hv e =>
      rw [e] at hp
      obtain ⟨h1, h2⟩ := flush_fst hp
      obtain ⟨a1, a2, a3, a4⟩ := ih (by omega) p h1
      refine ⟨by omega, a2, a3, ?_⟩
      rintro ⟨c, o, h3, h4, h5, h6⟩
      rcases Nat.lt_or_ge c k with h7 | h7
      · exact a4 ⟨c, o, h7, h4, h5, h6⟩
      · rw [show c = k by omega, ho] at h5; cases h5; rw [h2] at h6; cases h6
end

section
variable {P : Program} {σ σ' σ0 : Env} {S S' S0 : St} {w w' w0 : World}

/-- a block of its own that the heap S does not hold -/
structure Stands (P : Program) (n0 : Nat) (σ : Env) (S : St) (w : World) (id : Nat) (b : AB) (L : Loc) : Prop where
  at_ : σ id = some L
  ge : n0 ≤ L.r
  lt : L.r < w.heap.size
  rep : BlkRep P σ w L b
  own : isOwn b
  sep : ∀ c bl M, S.h.get c = some bl → σ c = some M → M.r ≠ L.r

/-- memory grows by a block that is not in the heap yet -/
theorem Ext.grow (h : Ext P σ0 S0 w0 σ S w) {ob : Obj} {id e : Nat} (hid : σ id = none) (hlo : S0.nx ≤ id) (hhi : id < S.nx) (hw : w'.heap = w.heap.push ob) (ho : w'.os = w.os) (ht : w'.tape = w.tape) (hu : w'.output = w.output) :
    Ext P σ0 S0 w0 (upd σ id ⟨w.heap.size, 0, e⟩) S w' := by
  have hold : ∀ r, r < w.heap.size → w'.heap[r]? = w.heap[r]? := fun r hr => by rw [hw, Array.getElem?_push, if_neg (by omega)]
  have hsz : w'.heap.size = w.heap.size + 1 := by rw [hw]; simp
  have hne : ∀ b bl, S.h.get b = some bl → b ≠ id := fun b bl hb e => by
    obtain ⟨L, h1, _⟩ := h.rep.blk b bl hb
    rw [e, hid] at h1; cases h1
  refine ⟨⟨fun b bl hb => ?_, h.rep.lt, fun b hb => ?_, fun g hg => upd_mono hid _ _ (h.rep.glob g hg), ?_⟩, fun b hb => ?_, h.nx, fun r hr hn => ?_, fun r hr => ?_, by have := h.size; omega, ho.trans h.os, ht.trans h.tape, hu.trans h.output, h.ro⟩
  · obtain ⟨L, h1, h2, h3⟩ := h.rep.blk b bl hb
    exact ⟨L, upd_mono hid _ _ h1, by omega, h3.frame (upd_mono hid) (hold _ h2)⟩
  · rw [upd_other _ (by omega)]; exact h.rep.fresh b hb
  · intro b b' bl bl' L L' h1 h2 h3 h4 h5 h6
    rw [upd_other _ (hne _ _ h1)] at h5
    rw [upd_other _ (hne _ _ h2)] at h6
    exact h.rep.inj b b' bl bl' L L' h1 h2 h3 h4 h5 h6
  · rw [upd_other _ (by omega)]; exact h.low b hb
  · rw [hold r (Nat.lt_of_lt_of_le hr h.size)]; exact h.keep r hr hn
  · obtain ⟨b, bl, L, h1, h2, h3, rfl⟩ := hr
    rw [upd_other _ (hne _ _ h1)] at h3
    exact h.own _ ⟨b, bl, L, h1, h2, h3, rfl⟩

theorem Stands.grow {n0 : Nat} {id : Nat} {b : AB} {L : Loc} (h : Stands P n0 σ S w id b L) (hR : Rep P σ S w) {ob : Obj} {i e : Nat} (hi : σ i = none) (hw : w'.heap = w.heap.push ob) :
    Stands P n0 (upd σ i ⟨w.heap.size, 0, e⟩) S w' id b L where
  at_ := upd_mono hi _ _ h.at_
  ge := h.ge
  lt := by rw [hw]; simp; have := h.lt; omega
  rep := h.rep.frame (upd_mono hi) (by rw [hw, Array.getElem?_push, if_neg (by have := h.lt; omega)])
  own := h.own
  sep := fun c bl M h1 h2 => by
    refine h.sep c bl M h1 ?_
    rw [upd_other] at h2
    · exact h2
    · intro e
      obtain ⟨L', h3, _⟩ := hR.blk c bl h1
      rw [e, hi] at h3; cases h3

/-- some of the blocks that stand are laid into the heap -/
theorem Ext.lay (h : Ext P σ0 S0 w0 σ S w) {n0 : Nat} (hn0 : w0.heap.size ≤ n0) {m : Nat} {ps : List Pend} (hst : ∀ p ∈ ps, Nat.testBit m p.i = true → p.id < S.nx ∧ ∃ L, Stands P n0 σ S w p.id p.b L)
    (hd : ∀ p ∈ ps, ∀ q ∈ ps, Nat.testBit m p.i = true → Nat.testBit m q.i = true → p.id ≠ q.id → ∀ L L', σ p.id = some L → σ q.id = some L' → L.r ≠ L'.r) :
    Ext P σ0 S0 w0 σ ⟨(flush m ps S.h).2, S.nx⟩ w := by
  refine ⟨⟨fun b bl hb => ?_, fun b bl hb => ?_, h.rep.fresh, h.rep.glob, ?_⟩, h.low, h.nx, h.keep, fun r hr => ?_, h.size, h.os, h.tape, h.output, fun b cs hb => ?_⟩
  · rcases flush_snd hb with ⟨p, h1, h2, rfl, rfl⟩ | h1
    · obtain ⟨_, L, h3⟩ := hst p h1 h2
      exact ⟨L, h3.at_, h3.lt, h3.rep⟩
    · exact h.rep.blk b bl h1
  · rcases flush_snd hb with ⟨p, h1, h2, rfl, rfl⟩ | h1
    · exact (hst p h1 h2).1
    · exact h.rep.lt b bl h1
  · intro b b' bl bl' L L' hb hb' ho hne hL hL'
    rcases flush_snd hb with ⟨p, h1, h2, rfl, rfl⟩ | h1 <;> rcases flush_snd hb' with ⟨q, h1', h2', rfl, rfl⟩ | h1'
    · exact hd p h1 q h1' h2 h2' hne L L' hL hL'
    · obtain ⟨_, M, h3⟩ := hst p h1 h2
      have := h3.at_
      rw [hL] at this; cases this
      exact (h3.sep b' bl' L' h1' hL').symm
    · obtain ⟨_, M, h3⟩ := hst q h1' h2'
      have := h3.at_
      rw [hL'] at this; cases this
      exact h3.sep b bl L h1 hL
    · exact h.rep.inj b b' bl bl' L L' h1 h1' ho hne hL hL'
  · obtain ⟨b, bl, L, hb, ho, hL, rfl⟩ := hr
    rcases flush_snd hb with ⟨p, h1, h2, rfl, rfl⟩ | h1
    · obtain ⟨_, M, h3⟩ := hst p h1 h2
      have := h3.at_
      rw [hL] at this; cases this
      exact .inr (Nat.le_trans hn0 h3.ge)
    · exact h.own _ ⟨b, bl, L, h1, ho, hL, rfl⟩
  · rcases flush_snd hb with ⟨p, h1, h2, rfl, h3⟩ | h1
    · obtain ⟨_, M, h4⟩ := hst p h1 h2
      have := h4.own
      rw [h3] at this
      exact this.elim
    · exact h.ro b cs h1

/-- what stands keeps standing when a chain operation acts -/
theorem Stands.act {n0 : Nat} {id : Nat} {b : AB} {L : Loc} (h : Stands P n0 σ S w id b L) (hR : Rep P σ S w) (hE : Ext P σ S w σ' S' w') (hid : id < S.nx) : Stands P n0 σ' S' w' id b L := by
  have hno : ¬ Own σ S L.r := fun ⟨c, bl, M, h1, h2, h3, h4⟩ => h.sep c bl M h1 h3 h4
  refine ⟨by rw [hE.low id hid]; exact h.at_, h.ge, Nat.lt_of_lt_of_le h.lt hE.size, h.rep.frame (hE.mono hR) (hE.keep _ h.lt hno), h.own, ?_⟩
  intro c bl M h1 h2
  by_cases ho : isOwn bl
  · rcases hE.own M.r ⟨c, bl, M, h1, ho, h2, rfl⟩ with ⟨c', bl', M', a1, a2, a3, a4⟩ | h3
    · rw [← a4]; exact h.sep c' bl' M' a1 a3
    · have := h.lt; omega
  · cases bl with
    | ro cs =>
      have h3 := hE.ro c cs h1
      rw [hE.low c (hR.lt c _ h3)] at h2
      exact h.sep c _ M h3 h2
    | _ => exact absurd trivial ho
end
end Go.Ev
