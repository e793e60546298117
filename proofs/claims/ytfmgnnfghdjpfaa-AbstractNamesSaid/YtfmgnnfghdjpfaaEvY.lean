import Derived.Test.YtfmgnnfghdjpfaaEvX
import Derived.RangeFuncLeaves
namespace Go.Ev
variable {P : Program}

def exitOf : Out → Exit
  | .normal => .normal
  | .exit id => .exit id
  | .ret => .ret

/-! ### the marks of ranges over functions -/
structure Mark (lo : Nat) (σ : Env) (S : St) (w : World) (r : Nat) : Prop where
  low : lo ≤ r
  lt : r < w.heap.size
  cell : w.heap[r]? = some (.deferred (some []))
  off : ∀ b bl L, S.h.get b = some bl → σ b = some L → L.r ≠ r

def markOf (r : Nat) : Deferred := { target := .collected r, args := #[] }

/-- the deferred calls of an activation are marks; a round has none -/
def Df (lo : Nat) (inr : Bool) (σ : Env) (S : St) (w : World) (ds : List Deferred) : Prop :=
  (inr = true → ds = []) ∧ ∃ rs : List Nat, ds = rs.map markOf ∧ rs.Nodup ∧ ∀ r ∈ rs, Mark lo σ S w r

theorem Mark.notOwn {lo r : Nat} {σ : Env} {S : St} {w : World} (h : Mark lo σ S w r) : ¬ Own σ S r := fun ⟨b, bl, L, h1, _, h2, h3⟩ => h.off b bl L h1 h2 h3

theorem Mark.ext {lo r : Nat} {σ σ' : Env} {S S' : St} {w w' : World} (h : Mark lo σ S w r) (hR : Rep P σ S w) (e : Ext P σ S w σ' S' w') : Mark lo σ' S' w' r where
  low := h.low
  lt := Nat.lt_of_lt_of_le h.lt e.size
  cell := by rw [e.keep r h.lt h.notOwn]; exact h.cell
  off := fun b bl L hb hL hr => by
    have own : isOwn bl → False := fun ho => by
      rcases e.own r ⟨b, bl, L, hb, ho, hL, hr⟩ with h1 | h1
      · exact h.notOwn h1
      · exact absurd h.lt (by omega)
    cases bl with
    | ro cs =>
      have h1 := e.ro b cs hb
      exact h.off b _ L h1 (by rw [← e.low b (hR.lt b _ h1)]; exact hL) hr
    | _ => exact own trivial

theorem Df.ext {lo : Nat} {inr : Bool} {σ σ' : Env} {S S' : St} {w w' : World} {ds : List Deferred} (h : Df lo inr σ S w ds) (hR : Rep P σ S w) (e : Ext P σ S w σ' S' w') : Df lo inr σ' S' w' ds := by
  obtain ⟨h0, rs, h1, h2, h3⟩ := h
  exact ⟨h0, rs, h1, h2, fun r hr => (h3 r hr).ext hR e⟩

theorem Df.nil {lo : Nat} {inr : Bool} {σ : Env} {S : St} {w : World} : Df lo inr σ S w [] := ⟨fun _ => rfl, [], rfl, by simp, fun r hr => by cases hr⟩

/-- what is asked of code -/
def CodeSpec (P : Program) (code : AC → Act' → St → Option (Out × Act' × St)) : Prop :=
  ∀ (ro : Option Nat) (n nt : Nat) (C : Code) (c : AC), cCode P nt C = some c → ∀ (A : Act') (S : St) (o : Out) (A' : Act') (S' : St), (A.inr = false → ro = none) → code c A S = some (o, A', S') →
    ∀ (lo : Nat) (σ : Env) (a : Act) (w : World) (Q : Exit → Act → World → Prop), a.tmps.size = nt → Df lo A.inr σ S w a.defers → lo ≤ w.heap.size → FrR P σ A.F a.tmps → Rep P σ S w →
      (∀ σ' a' w', A'.inr = A.inr → a'.tmps.size = nt → Df lo A.inr σ' S' w' a'.defers → FrR P σ' A'.F a'.tmps → Ext P σ S w σ' S' w' → Q (exitOf o) a' w') → C.wpIn (Fw ro) n P Q a w

/-- what is asked of a region that draws its order -/
def DrawnSpec (P : Program) (call : CallF) : Prop :=
  ∀ (ro : Option Nat) (n nt id : Nat) (ops : Array Oper) (aos : List AO), cDrawn P nt ops = some (.drw aos) → ∀ (σ : Env) (F F' : Fr) (S S' : St) (a : Act) (w : World) (Q : Exit → Act → World → Prop),
    a.tmps.size = nt → FrR P σ F a.tmps → Rep P σ S w → evDrawn aos call F S = some (F', S') →
    (∀ σ' a' w', FrR P σ' F' a'.tmps → a'.tmps.size = nt → a'.defers = a.defers → Ext P σ S w σ' S' w' → Q .normal a' w') → (Code.region id ops true).wpIn (Fw ro) n P Q a w

structure Known (P : Program) (fns : T AFn) : Prop where
  asked : Asked P
  bits : BitsSound P
  fn : ∀ id fn, fns.get id = some fn → ∃ Fn, P.funcs[id]? = some Fn ∧ cFn P Fn = some fn
  drawn : ∀ call, CallSpec P call → DrawnSpec P call

def resOf (tmps : Array Value) (r : ResultVar) : Sem Value :=
  match r with
  | .tmp t => pure (tmps.getD t undef)
  | .cell a t => do loadVar t (← asAddr (tmps.getD a undef))

theorem results_sound {σ : Env} {S : St} {w : World} (hR : Rep P σ S w) {F : Fr} {tmps : Array Value} (hF : FrR P σ F tmps) : ∀ {rs : List ResultVar} {rvs : List RV} {vs : List AV}, cRes P rs = some rvs → results rvs F S.h = some vs →
    ∃ Vs, (rs.mapM (resOf tmps)).run P w = .ok Vs w ∧ Rvs P σ vs Vs
  | [], rvs, vs, hc, h => by
    simp only [cRes, Option.some.injEq] at hc
    subst hc
    simp only [results, Option.some.injEq] at h
    subst h
    exact ⟨[], rfl, Rvs_nil.2 rfl⟩
  | .tmp t :: rs, rvs, vs, hc, h => by
    simp only [cRes, Option.map_eq_some_iff] at hc
    obtain ⟨rvs', hc, rfl⟩ := hc
    simp only [results] at h
    obtain ⟨vs', h1, h2⟩ := osel_eq_some h
    cases h2
    obtain ⟨Vs, h3, h4⟩ := results_sound hR hF hc h1
    refine ⟨tmps.getD t undef :: Vs, ?_, Rvs_cons.2 ⟨_, _, rfl, hF.get t, h4⟩⟩
    have hst : (resOf tmps (.tmp t)).run P w = .ok (tmps.getD t undef) w := rfl
    rw [List.mapM_cons]
    simp only [Sem.run_bind, hst, Sem.run_pure, Result.andThen_ok, h3]
  | .cell a t :: rs, rvs, vs, hc, h => by
    simp only [cRes] at hc
    split at hc
    · rename_i agg n rvs' hag hc'
      cases hc
      simp only [results] at h
      obtain ⟨v, h0, h⟩ := osel_eq_some h
      obtain ⟨vs', h1, h2⟩ := osel_eq_some h
      cases h2
      obtain ⟨Vs, h3, h4⟩ := results_sound hR hF hc' h1
      have ha := hF.get a
      unfold resV at h0
      split at h0
      · rename_i b off hb
        rw [hb] at ha
        simp only [Rv] at ha
        obtain ⟨L, hL, ha⟩ := ha
        obtain ⟨L', V, hL', h5, h6⟩ := loadV_sound hag hR h0
        rw [hL] at hL'; cases hL'
        refine ⟨V :: Vs, ?_, Rvs_cons.2 ⟨_, _, rfl, h6, h4⟩⟩
        have hst : (resOf tmps (.cell a t)).run P w = .ok V w := by simp [resOf, ha, asAddr, h5]
        rw [List.mapM_cons]
        simp only [Sem.run_bind, hst, Sem.run_pure, Result.andThen_ok, h3]
      · cases h0
    · cases hc

theorem oneOf_sound {σ : Env} {vs : List AV} {Vs : List Value} (h : Rvs P σ vs Vs) : Rv P σ (oneOf vs) (if h : Vs.toArray.size = 1 then Vs.toArray[0] else .tuple Vs.toArray) := by
  cases vs with
  | nil =>
    rw [Rvs_nil] at h
    subst h
    simp only [oneOf, Rv]
    exact ⟨[], rfl, Rvs_nil.2 rfl⟩
  | cons v vs =>
    cases vs with
    | nil =>
      rw [Rvs_cons] at h
      obtain ⟨V, Ws, rfl, h1, h2⟩ := h
      rw [Rvs_nil] at h2
      subst h2
      simpa [oneOf] using h1
    | cons u us =>
      have hl := h.length
      rw [dif_neg (by simp; simp at hl; omega)]
      simp only [oneOf, Rv]
      exact ⟨Vs, rfl, h⟩

theorem argsIn_get : ∀ (vs : List AV) (i : Nat) (F : Fr) (t : Nat), tmpV t (argsIn vs i F) = if i ≤ t ∧ t < i + vs.length then (vs[t - i]?).getD .undef else tmpV t F
  | [], i, F, t => by rw [if_neg (by simp)]; rfl
  | v :: vs, i, F, t => by
    simp only [argsIn]
    rw [argsIn_get vs (i + 1) _ t, tmpV_set]
    by_cases h1 : t = i
    · subst h1; rw [if_neg (by omega), if_pos rfl, if_pos (by simp)]; simp
    · by_cases h2 : i + 1 ≤ t ∧ t < i + 1 + vs.length
      · rw [if_pos h2, if_pos (by simp; omega), show t - i = (t - (i + 1)) + 1 by omega]; simp
      · rw [if_neg h2, if_neg h1, if_neg (by simp; omega)]

theorem args_frame {σ : Env} {args : List AV} {Args : List Value} (h : Rvs P σ args Args) {nt : Nat} (hn : args.length ≤ nt) :
    FrR P σ (argsIn args 0 .e) ((⟨Args⟩ : Array Value) ++ Array.replicate (nt - Args.length) undef) ∧ ((⟨Args⟩ : Array Value) ++ Array.replicate (nt - Args.length) undef).size = nt := by
  have hl := h.length
  have hund : Rv P σ .undef undef := by simp only [AV.undef, undef, Rv]; exact ⟨[], rfl, Rvs_nil.2 rfl⟩
  refine ⟨⟨fun t => ?_⟩, by simp; omega⟩
  rw [argsIn_get]
  by_cases ht : t < args.length
  · rw [if_pos ⟨Nat.zero_le _, by omega⟩, Nat.sub_zero, List.getElem?_eq_getElem ht]
    obtain ⟨V, h1, h2⟩ := h.get (List.getElem?_eq_getElem ht)
    rw [Array.getD_eq_getD_getElem?, Array.getElem?_append_left (by simp; omega)]
    simp only [List.getElem?_toArray, h1, Option.getD_some]
    exact h2
  · rw [if_neg (by omega)]
    have : ((⟨Args⟩ : Array Value) ++ Array.replicate (nt - Args.length) undef).getD t undef = undef := by
      rw [Array.getD_eq_getD_getElem?, Array.getElem?_append_right (by simp; omega)]
      simp only [Array.getElem?_replicate]
      split <;> rfl
    rw [this]
    exact hund

theorem Fw_none : Fw none = Fence.wide := rfl
theorem Fw_some (l : Nat) : Fw (some l) = Fence.wide.inRound l := rfl

theorem heap_set_same {w : World} {r : Nat} {o : Obj} (o' : Obj) (h : w.heap[r]? = some o) : ({ w with heap := w.heap.setIfInBounds r o' } : World).heap[r]? = some o' := by
  have := (Array.getElem?_eq_some_iff.1 h).1
  simp [this]
theorem heap_set_other {w : World} {r r' : Nat} (o' : Obj) (h : r' ≠ r) : ({ w with heap := w.heap.setIfInBounds r o' } : World).heap[r']? = w.heap[r']? := by
  simp [Ne.symm h]
theorem run_getLoop {w : World} {r : Nat} {lp : Loop} (h : w.heap[r]? = some (.loop lp)) : (Instr.getLoop r).run P w = .ok lp w := by
  simp [Instr.getLoop, run_getObj h (fun _ _ _ e => by cases e)]

/-- a block that no name stands for is written -/
theorem Ext.poke {σ0 σ : Env} {S0 S : St} {w0 w w' : World} (h : Ext P σ0 S0 w0 σ S w) {r : Nat} (hr : w0.heap.size ≤ r) (off : ∀ b bl L, S.h.get b = some bl → σ b = some L → L.r ≠ r)
    (hh : ∀ r', r' ≠ r → w'.heap[r']? = w.heap[r']?) (hsz : w'.heap.size = w.heap.size) (ho : w'.os = w.os) (ht : w'.tape = w.tape) (hu : w'.output = w.output) : Ext P σ0 S0 w0 σ S w' where
  rep := ⟨fun b bl hb => by
    obtain ⟨L, h1, h2, h3⟩ := h.rep.blk b bl hb
    exact ⟨L, h1, by omega, h3.frame (fun _ _ x => x) (hh _ (off b bl L hb h1))⟩, h.rep.lt, h.rep.fresh, h.rep.glob, h.rep.inj⟩
  low := h.low
  nx := h.nx
  keep := fun r' h1 h2 => by rw [hh r' (by omega)]; exact h.keep r' h1 h2
  own := h.own
  size := by rw [hsz]; exact h.size
  os := ho.trans h.os
  tape := ht.trans h.tape
  output := hu.trans h.output
  ro := h.ro

/-- a function is left: the marks are taken -/
theorem leaves {fn : Func} {n : Nat} {tmps : Array Value} {R : Ending → World → Prop} {σ0 σ : Env} {S0 S : St} {w0 : World} : ∀ (rs : List Nat) (w : World), rs.Nodup → (∀ r ∈ rs, Mark w0.heap.size σ S w r) → Ext P σ0 S0 w0 σ S w →
    (∀ w', Ext P σ0 S0 w0 σ S w' → ∃ v, (Go.results fn tmps).run P w' = .ok v w' ∧ R (.returned v) w') → LeavesInM Fence.wide n P fn tmps R (rs.map markOf) .returning w
  | [], w, _, _, he, hQ => hQ w he
  | r :: rs, w, hn, hm, he, hQ => by
    have hr := hm r (by simp)
    rw [List.nodup_cons] at hn
    refine ⟨by simp, .inl ⟨r, { w with heap := w.heap.setIfInBounds r (.deferred none) }, rfl, ?_, ?_⟩⟩
    · simp only [Instr.takeDeferred, Sem.run_bind, run_getObj hr.cell (fun _ _ _ e => by cases e), Result.andThen_ok, run_setObj hr.cell (fun _ _ _ e => by cases e), Sem.run_pure]
    · refine leaves rs _ hn.2 (fun r' hr' => ?_) (he.poke hr.low hr.off (fun r' h => heap_set_other _ h) (by simp) rfl rfl rfl) hQ
      have h1 := hm r' (by simp [hr'])
      have hne : r' ≠ r := fun e => hn.1 (e ▸ hr')
      exact ⟨h1.low, by simpa using h1.lt, by rw [heap_set_other _ hne]; exact h1.cell, h1.off⟩

theorem run_invoke_func {id : Nat} {Fn : Func} {C : Code} {A B Args : List Value} {w : World} (hFn : P.funcs[id]? = some Fn) (hbody : Fn.body = some C) (hname : ¬ (Fn.name == "runtime.NumGoroutine") = true) :
    ((do let d ← Deferred.ofValue (.func (.func id) ⟨A⟩ ⟨B⟩) ⟨Args⟩; invoke d.target d.args : Sem Next)).run P w = .ok (.enter id ⟨A ++ (Args ++ B)⟩) w := by
  simp only [Deferred.ofValue, Sem.run_bind, Sem.run_pure, Result.andThen_ok, invoke, callFunc, run_program, hFn]
  rw [if_neg hname]
  simp [hbody]

theorem cFn_some {Fn : Func} {fn : AFn} (hc : cFn P Fn = some fn) : ∃ C c rs, Fn.body = some C ∧ ¬ (Fn.name == "runtime.NumGoroutine") = true ∧ cCode P Fn.ntmps C = some c ∧ cRes P Fn.results.toList = some rs ∧ fn = ⟨Fn.ntmps, rs, c⟩ := by
  unfold cFn at hc
  rw [Bool.cond_eq_ite] at hc
  split at hc
  · cases hc
  · rename_i hname
    split at hc
    · rename_i C hbody
      split at hc
      · rename_i c rs hC hrs
        cases hc
        exact ⟨C, c, rs, hbody, hname, hC, hrs, rfl⟩
      · cases hc
    · cases hc

theorem paramsIn_sound {σ : Env} : ∀ {ps : List Nat} {args : List AV} {Args : List Value} {F F' : Fr} {tmps : Array Value}, paramsIn ps args F = some F' → Rvs P σ args Args → FrR P σ F tmps → (∀ p ∈ ps, p < tmps.size) →
    args.length = ps.length ∧ FrR P σ F' ((ps.zip Args).foldl (fun tmps (t, a) => tmps.setIfInBounds t a) tmps) ∧ ((ps.zip Args).foldl (fun tmps (t, a) => tmps.setIfInBounds t a) tmps).size = tmps.size
  | [], [], Args, F, F', tmps, h, ha, hF, _ => by
    simp only [paramsIn, Option.some.injEq] at h
    subst h
    exact ⟨rfl, by simpa using hF, by simp⟩
  | [], _ :: _, Args, F, F', tmps, h, ha, hF, _ => by simp [paramsIn] at h
  | _ :: _, [], Args, F, F', tmps, h, ha, hF, _ => by simp [paramsIn] at h
  | p :: ps, v :: vs, Args, F, F', tmps, h, ha, hF, hp => by
    rw [Rvs_cons] at ha
    obtain ⟨V, Ws, rfl, hv, ha⟩ := ha
    simp only [paramsIn] at h
    have hlt := hp p (by simp)
    have hF1 : FrR P σ (F.set p (some v)) (tmps.setIfInBounds p V) := ⟨fun t => by
      rw [tmpV_set]
      by_cases ht : t = p
      · subst ht; rw [if_pos rfl, Array.getD_eq_getD_getElem?, Array.getElem?_setIfInBounds_self_of_lt hlt]; exact hv
      · rw [if_neg ht, Array.getD_eq_getD_getElem?, Array.getElem?_setIfInBounds_ne (Ne.symm ht), ← Array.getD_eq_getD_getElem?]; exact hF.get t⟩
    obtain ⟨h1, h2, h3⟩ := paramsIn_sound h ha hF1 (fun q hq => by simpa using hp q (by simp [hq]))
    exact ⟨by simp [h1], by simpa using h2, by simpa using h3⟩

/-- ONE ROUND of a range over a function. -/
theorem round_sound {ih : Evs} (hcode : CodeSpec P ih.code) {bl : AB} {b : Nat} {args : List AV} {S S' : St} {v : AV} (hb : S.h.get b = some bl) (h : roundB bl b args ih S = some (v, S')) {σ : Env} {w : World} {L : Loc} {Args : List Value}
    (hL : σ b = some L) (hargs : Rvs P σ args Args) (hR : Rep P σ S w) :
    NextIn P (fun V w' => ∃ σ', Rv P σ' v V ∧ Ext P σ S w σ' S' w') ((Instr.yield L.r ⟨Args⟩).run P w) := by
  cases bl <;> simp only [roundB, reduceCtorEq] at h
  rename_i st pend fr ps as bd
  cases st <;> simp only [reduceCtorEq] at h
  obtain ⟨F, hF, h⟩ := osel_eq_some h
  obtain ⟨⟨o1, A1, S1⟩, h1, h⟩ := osel_eq_some h
  obtain ⟨L', hL', hlt, lp, hlp, hst, hpend, hfr, hps, has, hbd, hpb⟩ := hR.blk b _ hb
  rw [hL] at hL'; cases hL'
  obtain ⟨hlen, hfr', hsz⟩ := paramsIn_sound hF hargs hfr hpb
  have hAl := hargs.length
  have hpl : lp.params.size = ps.length := by rw [← hps]; simp
  have hrun : (Instr.yield L.r ⟨Args⟩).run P w = .ok (.round L.r lp.fn ((ps.zip Args).foldl (fun tmps (t, a) => tmps.setIfInBounds t a) lp.tmps) lp.assign lp.body) w := by
    have hsz' : (⟨Args⟩ : Array Value).size = lp.params.size := by simp; omega
    have hfold : (lp.params.zip ⟨Args⟩).foldl (fun tmps (t, a) => tmps.setIfInBounds t a) lp.tmps = (ps.zip Args).foldl (fun tmps (t, a) => tmps.setIfInBounds t a) lp.tmps := by
      rw [← Array.foldl_toList, Array.toList_zip, hps]
    simp only [Instr.yield, Sem.run_bind, run_getLoop hlp, Result.andThen_ok, hsz', ne_eq, not_true_eq_false, if_false, Sem.run_pure, hfold]
  rw [hrun]
  show RoundIn Fence.wide 0 P L.r lp.fn _ lp.assign lp.body w _
  refine roundIn_of_wpIn trivial ?_
  rw [← Fw_some]
  refine hcode (some L.r) 0 lp.tmps.size lp.assign as has ⟨F, true⟩ S o1 A1 S1 (fun h => by cases h) h1 w.heap.size σ { tmps := (ps.zip Args).foldl (fun tmps (t, a) => tmps.setIfInBounds t a) lp.tmps, defers := [] } w _ hsz Df.nil (Nat.le_refl _) hfr' hR ?_
  intro σ1 a1 w1 i1 s1 d1 f1 e1
  cases o1 <;> simp only [assignK, reduceCtorEq] at h
  obtain ⟨bl1, hb1, h⟩ := osel_eq_some h
  cases bl1 <;> simp only [beginRoundB, reduceCtorEq] at h
  rename_i st1 pend1 fr1 ps1 as1 bd1
  cases st1 <;> simp only [reduceCtorEq] at h
  obtain ⟨⟨o2, A2, S2⟩, h2, h⟩ := osel_eq_some h
  obtain ⟨bl2, hb2, h⟩ := osel_eq_some h
  obtain ⟨L1, hL1, hlt1, lp1, hlp1, hst1, hpend1, hfr1, hps1, has1, hbd1, hpb1⟩ := e1.rep.blk b _ hb1
  have := e1.mono hR b L hL
  rw [this] at hL1; cases hL1
  have hbeg : (Instr.beginRound L.r).run P w1 = .ok () { w1 with heap := w1.heap.setIfInBounds L.r (.loop { lp1 with state := .busy }) } := by
    simp only [Instr.beginRound, Sem.run_bind, run_getLoop hlp1, Result.andThen_ok, run_setObj hlp1 (fun _ _ _ e => by cases e), hst1, lstOf, Sem.run_pure]
  refine ⟨_, hbeg, ?_⟩
  have e2 : Ext P σ1 S1 w1 σ1 ⟨S1.h.set b (some (.loop .busy pend1 fr1 ps1 as1 bd1)), S1.nx⟩ { w1 with heap := w1.heap.setIfInBounds L.r (.loop { lp1 with state := .busy }) } :=
    Ext.write e1.rep hb1 trivial trivial this (fun r hr => heap_set_other _ hr) (by simp) rfl rfl rfl ⟨_, heap_set_same _ hlp1, rfl, hpend1, hfr1, hps1, has1, hbd1, hpb1⟩
  have i1' : A1.inr = true := i1
  have h2' : ih.code bd A1 ⟨S1.h.set b (some (.loop .busy pend1 fr1 ps1 as1 bd1)), S1.nx⟩ = some (o2, A2, S2) := h2
  have d1' : Df w.heap.size A1.inr σ1 S1 w1 a1.defers := by rw [i1]; exact d1
  refine hcode (some L.r) 0 lp.tmps.size lp.body bd hbd A1 _ o2 A2 S2 (fun h => by rw [i1'] at h; cases h) h2' w.heap.size σ1 a1 _ _ s1 (d1'.ext e1.rep e2) (by have := e1.size; simpa using this) f1 e2.rep ?_
  intro σ2 a2 w2 i2 s2 d2 f2 e3
  cases bl2 <;> simp only [endRoundB, reduceCtorEq] at h
  rename_i st2 pend2 fr2 ps2 as2 bd2
  cases st2 <;> simp only [reduceCtorEq] at h
  obtain ⟨L2, hL2, hlt2, lp2, hlp2, hst2, hpend2, hfr2, hps2, has2, hbd2, hpb2⟩ := e3.rep.blk b _ hb2
  have hL2' := e3.mono e2.rep b L this
  rw [hL2'] at hL2; cases hL2
  have fin : ∀ (p : Option Out) (st : LSt) (j : Option Code) (bb : Bool), lstOf st = (if j.isNone then .ready else .done) → p.bind codeOf = j → bb = j.isNone → v = .bool bb →
      S' = ⟨S2.h.set b (some (.loop st p fr2 ps2 as2 bd2)), S2.nx⟩ → ∃ V w', (Instr.endRound L.r j).run P w2 = .ok V w' ∧ ∃ σ', Rv P σ' v V ∧ Ext P σ S w σ' S' w' := by
    intro p st j bb e1' e2' e3' e4' e5'
    have hend : (Instr.endRound L.r j).run P w2 = .ok (.bool j.isNone) { w2 with heap := w2.heap.setIfInBounds L.r (.loop { lp2 with state := if j.isNone then .ready else .done, pending := j }) } := by
      simp only [Instr.endRound, Sem.run_bind, run_getLoop hlp2, Result.andThen_ok, run_setObj hlp2 (fun _ _ _ e => by cases e), Sem.run_pure]
    refine ⟨_, _, hend, σ2, by rw [e4', e3']; simp only [Rv], ?_⟩
    rw [e5']
    exact e1.trans (e2.trans (e3.trans (Ext.write e3.rep hb2 trivial trivial hL2' (fun r hr => heap_set_other _ hr) (by simp) rfl rfl rfl ⟨_, heap_set_same _ hlp2, e1'.symm, e2'.symm, hfr2, hps2, has2, hbd2, hpb2⟩)))
  cases o2 with
  | normal => cases h; exact fin none .ready none true rfl rfl rfl rfl rfl
  | ret => cases h; exact fin (some .ret) .done (some .ret) false rfl rfl rfl rfl rfl
  | exit id => cases h; exact fin (some (.exit id)) .done (some (.exit id)) false rfl rfl rfl rfl rfl

/-- A CALL, out of the code's contract. -/
theorem call_sound {fns : T AFn} (hK : Known P fns) {ih : Evs} (hcode : CodeSpec P ih.code) : CallSpec P (evCall fns ih) := by
  intro f args S v S' h σ w fv Args hf hargs hR
  cases f <;> simp only [evCall, reduceCtorEq] at h
  · rename_i id first cap
    obtain ⟨fn, hfn, h⟩ := osel_eq_some h
    obtain ⟨Fn, hFn, hc⟩ := hK.fn id fn hfn
    simp only [Rv] at hf
    obtain ⟨A, B, rfl, hA, hB⟩ := hf
    obtain ⟨C, c, rs, hbody, hname, hC, hrs, rfl⟩ := cFn_some hc
    unfold callFn at h
    obtain ⟨hle, h⟩ := bsel_some h
    obtain ⟨⟨o, A', S1⟩, h1, h2⟩ := osel_eq_some h
    rw [lenL_eq, appL_eq, appL_eq] at hle
    have hle := Nat.le_of_ble_eq_true hle
    rw [appL_eq, appL_eq] at h1
    have hall : Rvs P σ (first ++ (args ++ cap)) (A ++ (Args ++ B)) := hA.append (hargs.append hB)
    rw [run_invoke_func hFn hbody hname]
    show CallsIn Fence.wide 0 P id ⟨A ++ (Args ++ B)⟩ w _
    obtain ⟨hfr, hsz⟩ := args_frame hall (nt := Fn.ntmps) hle
    refine callsIn_of_wp_marks hFn hbody trivial ?_
    have hsz0 : (⟨A ++ (Args ++ B)⟩ : Array Value).size = (A ++ (Args ++ B)).length := rfl
    rw [← Fw_none, hsz0]
    refine hcode none 0 Fn.ntmps C c hC ⟨argsIn (first ++ (args ++ cap)) 0 .e, false⟩ S o A' S1 (fun _ => rfl) h1 w.heap.size σ _ w _ hsz Df.nil (Nat.le_refl _) hfr hR ?_
    intro σ' a' w' hinr hsz' hdf hfr' hext
    obtain ⟨_, rks, hd, hnd, hmk⟩ := hdf
    unfold leaveK at h2
    obtain ⟨vs, h6, h7⟩ : ∃ vs, results rs A'.F S1.h = some vs ∧ some (oneOf vs, S1) = some (v, S') := by
      cases o with
      | normal => exact osel_eq_some h2
      | ret => exact osel_eq_some h2
      | exit i => cases h2
    cases h7
    have fin : ∀ w'', Ext P σ S w σ' S' w'' → ∃ V, (Go.results Fn a'.tmps).run P w'' = .ok V w'' ∧ ∃ σ', Rv P σ' (oneOf vs) V ∧ Ext P σ S w σ' S' w'' := fun w'' hx => by
      obtain ⟨Vs, h8, h9⟩ := results_sound hx.rep hfr' hrs h6
      refine ⟨_, ?_, σ', oneOf_sound h9, hx⟩
      show ((do let vs ← Fn.results.mapM (resOf a'.tmps); pure (if h : vs.size = 1 then vs[0] else .tuple vs) : Sem Value)).run P w'' = _
      rw [Array.mapM_eq_mapM_toList]
      simp only [Sem.run_bind, Sem.run_map, h8, Result.andThen_ok, Sem.run_pure]
    cases o with
    | normal =>
      show LeavesInM Fence.wide 0 P Fn a'.tmps _ a'.defers .returning w'
      rw [hd]
      exact leaves rks w' hnd hmk hext fin
    | ret =>
      show LeavesInM Fence.wide 0 P Fn a'.tmps _ a'.defers .returning w'
      rw [hd]
      exact leaves rks w' hnd hmk hext fin
    | exit i => cases h2
  · rename_i b
    obtain ⟨bl, hb, h⟩ := osel_eq_some h
    simp only [Rv] at hf
    obtain ⟨L, hL, rfl⟩ := hf
    have hrun : ((do let d ← Deferred.ofValue (.func (.yield L.r) #[] #[]) ⟨Args⟩; invoke d.target d.args : Sem Next)).run P w = (Instr.yield L.r ⟨Args⟩).run P w := by
      simp [Deferred.ofValue, invoke]
    rw [hrun]
    exact round_sound hcode hb h hL hargs hR

/-! ## The whole -/
theorem ev_succ (fns : T AFn) (n : Nat) : ev fns (n + 1) = ⟨fun c => evCode c (ev fns n), evCall fns (ev fns n)⟩ := rfl

/-- a loop, round by round -/
theorem loop_sound {fns : T AFn} {ro : Option Nat} {m nt : Nat} {C : Code} {c : AC} (hC : cCode P nt C = some c) : ∀ (n : Nat), (∀ k, k < n → CodeSpec P (ev fns k).code) →
    ∀ (A : Act') (S : St) (o : Out) (A' : Act') (S' : St), (A.inr = false → ro = none) → (ev fns n).code (.loop c) A S = some (o, A', S') →
    ∀ (lo : Nat) (σ : Env) (a : Act) (w : World) (Q : Exit → Act → World → Prop), a.tmps.size = nt → Df lo A.inr σ S w a.defers → lo ≤ w.heap.size → FrR P σ A.F a.tmps → Rep P σ S w →
      (∀ σ' a' w', A'.inr = A.inr → a'.tmps.size = nt → Df lo A.inr σ' S' w' a'.defers → FrR P σ' A'.F a'.tmps → Ext P σ S w σ' S' w' → Q (exitOf o) a' w') → Code.roundsIn (Fw ro) m P C Q n a w
  | 0, _, A, S, o, A', S', _, h => by cases h
  | n + 1, hk, A, S, o, A', S', hds, h => by
    intro lo σ a w Q hsz hdef hlo hF hR hQ
    obtain ⟨⟨o1, A1, S1⟩, h1, h2⟩ := osel_eq_some (show (osel ((ev fns n).code c A S) (seqK (.loop c) (ev fns n))) = some (o, A', S') from h)
    show C.wpIn (Fw ro) m P (Exit.then (Code.roundsIn (Fw ro) m P C Q n) Q) a w
    refine hk n (Nat.lt_succ_self n) ro m nt C c hC A S o1 A1 S1 hds h1 lo σ a w _ hsz hdef hlo hF hR ?_
    intro σ1 a1 w1 i1 s1 d1 f1 e1
    obtain ⟨F1, q1⟩ := A1
    simp only at i1
    subst i1
    have l1 := Nat.le_trans hlo e1.size
    unfold seqK at h2
    cases o1 with
    | normal => exact loop_sound hC n (fun k hlt => hk k (by omega)) ⟨F1, A.inr⟩ S1 o A' S' hds h2 lo σ1 a1 w1 Q s1 d1 l1 f1 e1.rep (fun σ' a' w' q1 q2 q3 q4 q5 => hQ σ' a' w' q1 q2 q3 q4 (e1.trans q5))
    | exit i => cases h2; exact hQ σ1 a1 w1 rfl s1 d1 f1 e1
    | ret => cases h2; exact hQ σ1 a1 w1 rfl s1 d1 f1 e1

/-- THE STATEMENT 'for .. := range f'. -/
theorem rng_sound {fns : T AFn} (hK : Known P fns) {n : Nat} (ih : CodeSpec P (ev fns n).code) (hcall : CallSpec P (ev fns n).call) (_ : ∀ k, n = k + 1 → CodeSpec P (ev fns k).code) {ro : Option Nat} {m nt : Nat}
    {f : Operand} {ps : Array Tmp} {x y : Code} {cf : Opd} {cx cy : AC} (hf : cOpd P f = some cf) (hx : cCode P nt x = some cx) (hy : cCode P nt y = some cy) (hps : ps.toList.all (fun p => Nat.blt p nt) = true)
    {A A' : Act'} {S S' : St} {o : Out} (hro : A.inr = false → ro = none) (h : (ev fns (n + 1)).code (.rng cf ps.toList cx cy) A S = some (o, A', S'))
    {lo : Nat} {σ : Env} {a : Act} {w : World} {Q : Exit → Act → World → Prop} (hsz : a.tmps.size = nt) (hdef : Df lo A.inr σ S w a.defers) (hlo : lo ≤ w.heap.size) (hF : FrR P σ A.F a.tmps) (hR : Rep P σ S w)
    (hQ : ∀ σ' a' w', A'.inr = A.inr → a'.tmps.size = nt → Df lo A.inr σ' S' w' a'.defers → FrR P σ' A'.F a'.tmps → Ext P σ S w σ' S' w' → Q (exitOf o) a' w') : (Code.rangeFunc f ps x y).wpIn (Fw ro) m P Q a w := by
  have h : bsel A.inr none (bsel (isFn (cf.val A.F))
    (osel ((ev fns n).call (cf.val A.F) [.yld S.nx] ⟨S.h.set S.nx (some (.loop .ready none A.F ps.toList cx cy)), Nat.succ S.nx⟩) fun r =>
      osel (r.2.h.get S.nx) fun bl => rngEnd bl S.nx A r.2 (ev fns n)) none) = some (o, A', S') := h
  cases hinr : A.inr with
  | true => rw [hinr, bsel_true] at h; cases h
  | false =>
    rw [hinr, bsel_false] at h
    have := hro hinr
    subst this
    obtain ⟨hfn, h⟩ := bsel_some h
    obtain ⟨⟨v1, S1⟩, h1, h⟩ := osel_eq_some h
    obtain ⟨bl, hbl, h⟩ := osel_eq_some h
    simp only at hbl h
    have hfv := opd_sound (a := a) hF hR hf
    cases hcf : cf.val A.F <;> rw [hcf] at hfn <;> simp only [isFn, Bool.false_eq_true] at hfn
    rename_i id first cap
    rw [hcf] at hfv h1
    have hfv' := hfv
    simp only [Rv] at hfv
    obtain ⟨FA, FB, hev, hA, hB⟩ := hfv
    -- the function that is ranged over
    have hent : ∃ Fn C, P.funcs[id]? = some Fn ∧ Fn.body = some C ∧ ¬ (Fn.name == "runtime.NumGoroutine") = true := by
      cases n with
      | zero => cases h1
      | succ k =>
        have h1' : evCall fns (ev fns k) (.fn id first cap) [.yld S.nx] _ = some (v1, S1) := h1
        simp only [evCall] at h1'
        obtain ⟨fn, hfn', _⟩ := osel_eq_some h1'
        obtain ⟨Fn, hFn, hc⟩ := hK.fn id fn hfn'
        obtain ⟨C, c, rs, hbody, hname, _⟩ := cFn_some hc
        exact ⟨Fn, C, hFn, hbody, hname⟩
    obtain ⟨Fn, C, hFn, hbody, hname⟩ := hent
    rw [Fw_none]
    refine wpIn_rangeFunc fun fnid _ => ?_
    -- the world with the mark's block
    have ep : Ext P σ S w σ S (w.alloc (.deferred (some []))) := by
      have hpush : ∀ r, r < w.heap.size → (w.alloc (.deferred (some []))).heap[r]? = w.heap[r]? := fun r hr => by
        show (w.heap.push _)[r]? = _
        rw [Array.getElem?_push, if_neg (by omega)]
      have hsize : (w.alloc (.deferred (some []))).heap.size = w.heap.size + 1 := by show (w.heap.push _).size = _; simp
      exact ⟨⟨fun b bl hb => by
        obtain ⟨L, q1, q2, q3⟩ := hR.blk b bl hb
        exact ⟨L, q1, by omega, q3.frame (fun _ _ x => x) (hpush _ q2)⟩, hR.lt, hR.fresh, hR.glob, hR.inj⟩, fun _ _ => rfl, Nat.le_refl _, fun r hr _ => hpush r hr, fun _ ho => .inl ho, by omega, rfl, rfl, rfl, fun _ _ hb => hb⟩
    have hsize1 : (w.alloc (.deferred (some []))).heap.size = w.heap.size + 1 := by show (w.heap.push _).size = _; simp
    have hmk : Mark lo σ S (w.alloc (.deferred (some []))) w.heap.size := by
      refine ⟨hlo, by omega, ?_, fun b bl L hb hL he => ?_⟩
      · show (w.heap.push _)[w.heap.size]? = _
        simp
      · obtain ⟨L', q1, q2, _⟩ := hR.blk b bl hb
        rw [hL] at q1; cases q1
        omega
    let lp : Loop := { state := .ready, pending := none, fn := fnid, tmps := a.tmps, params := ps, assign := x, body := y, defers := w.heap.size }
    have ea : Ext P σ S (w.alloc (.deferred (some []))) (upd σ S.nx ⟨w.heap.size + 1, 0, 0⟩) ⟨S.h.set S.nx (some (.loop .ready none A.F ps.toList cx cy)), Nat.succ S.nx⟩ ((w.alloc (.deferred (some []))).alloc (.loop lp)) := by
      have := Ext.alloc (P := P) (bl := .loop .ready none A.F ps.toList cx cy) (e := 0) (ob := .loop lp) ep.rep (w' := (w.alloc (.deferred (some []))).alloc (.loop lp)) rfl rfl rfl rfl
      rw [hsize1] at this
      refine this ?_ trivial
      refine ⟨lp, ?_, rfl, rfl, hF.mono (upd_mono (hR.fresh _ (Nat.le_refl _))), rfl, by rw [← hsz] at hx; exact hx, by rw [← hsz] at hy; exact hy, fun p hp => ?_⟩
      · show ((w.alloc (.deferred (some []))).heap.push (.loop lp))[w.heap.size + 1]? = some (.loop lp)
        rw [← hsize1, Array.getElem?_push_size]
      · have := List.all_eq_true.1 hps p hp
        have := Nat.le_of_ble_eq_true (show Nat.ble (p + 1) nt = true from this)
        show p < a.tmps.size
        omega
    have hsl : upd σ S.nx ⟨w.heap.size + 1, 0, 0⟩ S.nx = some ⟨w.heap.size + 1, 0, 0⟩ := upd_same _ _
    have e2 := ep.trans ea
    have hnext := hcall (.fn id first cap) [.yld S.nx] _ v1 S1 h1 _ _ (.func (.func id) ⟨FA⟩ ⟨FB⟩) [.func (.yield (w.heap.size + 1)) #[] #[]]
      (by rw [hev] at hfv'; exact hfv'.mono (e2.mono hR)) (Rvs_cons.2 ⟨_, _, rfl, by simp only [Rv]; exact ⟨_, hsl, rfl⟩, Rvs_nil.2 rfl⟩) e2.rep
    rw [run_invoke_func hFn hbody hname] at hnext
    have hnext : CallsIn Fence.wide 0 P id _ _ _ := hnext
    refine ⟨w.heap.size + 1, [markOf w.heap.size], (w.alloc (.deferred (some []))).alloc (.loop lp), { target := .fn (.func id) ⟨FB⟩, args := ⟨FA⟩ ++ #[.func (.yield (w.heap.size + 1)) #[] #[]] }, (w.alloc (.deferred (some []))).alloc (.loop lp), id,
      ⟨FA ++ ([.func (.yield (w.heap.size + 1)) #[] #[]] ++ FB)⟩, (w.alloc (.deferred (some []))).alloc (.loop lp), ?_, ?_, fun _ _ => trivial, ?_, fun hd => by simp [Fence.wide] at hd, ?_⟩
    · have n1 : ∀ (o : Obj) (w : World), (newObj o).run P w = .ok w.heap.size (w.alloc o) := fun _ _ => rfl
      simp only [Instr.enterLoop, Fence.wide, Sem.run_bind, n1, Result.andThen_ok, Sem.run_pure, hsize1]
      rfl
    · show (Deferred.ofValue (a.eval f) _).run P _ = _
      rw [hev]
      simp [Deferred.ofValue, rangeCall, Act.eval]
    · have := run_invoke_func (P := P) (A := FA) (B := FB) (Args := [.func (.yield (w.heap.size + 1)) #[] #[]]) (w := (w.alloc (.deferred (some []))).alloc (.loop lp)) hFn hbody hname
      simpa [Deferred.ofValue] using this
    · refine callsIn_any (ro := none) (CallsIn.mono hnext fun e w3 he => ?_)
      cases e with
      | returned V =>
        obtain ⟨σ3, _, e3⟩ := he
        have e13 := e2.trans e3
        unfold rngEnd at h
        split at h
        · rename_i st pend fr ps' as bd
          obtain ⟨L, hL, hlt, lp3, hlp3, hst, hpend, hfr, hps3, has, hbd, hpb⟩ := e3.rep.blk S.nx _ hbl
          have hL' := e3.mono e2.rep _ _ hsl
          rw [hL'] at hL; cases hL
          have hnb : (lp3.state == .busy) = false := by
            rw [hst]
            cases st <;> first | (simp at h; done) | rfl
          have hpost : ∃ c, outC pend = some c ∧ (ev fns n).code c A ⟨S1.h.set S.nx (some (.loop .exhausted pend fr ps' as bd)), S1.nx⟩ = some (o, A', S') := by
            cases st <;> first | (simp at h; done) | exact osel_eq_some h
          obtain ⟨c, hc, hcode⟩ := hpost
          obtain ⟨w4, hw4⟩ : ∃ w4 : World, w4 = { w3 with heap := w3.heap.setIfInBounds (w.heap.size + 1) (.loop { lp3 with state := .exhausted }) } := ⟨_, rfl⟩
          refine ⟨lp3.pending, w4, ?_, ?_⟩
          · rw [hw4]
            simp only [Instr.endLoop, Sem.run_bind, run_getLoop hlp3, Result.andThen_ok, hnb, Bool.false_eq_true, if_false, run_setObj hlp3 (fun _ _ _ e => by cases e), Sem.run_pure]
          · have e4 : Ext P σ3 S1 w3 σ3 ⟨S1.h.set S.nx (some (.loop .exhausted pend fr ps' as bd)), S1.nx⟩ { w3 with heap := w3.heap.setIfInBounds (w.heap.size + 1) (.loop { lp3 with state := .exhausted }) } :=
              Ext.write e3.rep hbl trivial trivial hL' (fun r hr => heap_set_other _ hr) (by simp) rfl rfl rfl ⟨_, heap_set_same _ hlp3, rfl, hpend, hfr, hps3, has, hbd, hpb⟩
            rw [← hw4] at e4
            have e14 := e13.trans e4
            have hd4 : Df lo A.inr σ3 ⟨S1.h.set S.nx (some (.loop .exhausted pend fr ps' as bd)), S1.nx⟩ w4 ([markOf w.heap.size] ++ a.defers) := by
              obtain ⟨_, rs, d1, d2, d3⟩ := hdef
              refine ⟨fun hh => (by rw [hinr] at hh; cases hh), w.heap.size :: rs, (by rw [d1]; rfl), List.nodup_cons.2 ⟨fun hm => ?_, d2⟩, fun r hr => ?_⟩
              · exact absurd (d3 _ hm).lt (by omega)
              · rcases List.mem_cons.1 hr with rfl | hr
                · exact (hmk.ext ep.rep (ea.trans (e3.trans e4)))
                · exact (d3 r hr).ext hR e14
            have hfin := ih none m nt
            have hA4 : FrR P σ3 A.F a.tmps := hF.mono (e14.mono hR)
            have hlo4 := Nat.le_trans hlo e14.size
            rw [hpend]
            cases pend with
            | none =>
              cases hc
              cases n with
              | zero => cases hcode
              | succ k =>
                cases hcode
                exact hQ σ3 _ _ rfl hsz hd4 hA4 e14
            | some out =>
              cases out with
              | normal => cases hc
              | ret =>
                cases hc
                exact hfin .ret .ret rfl A _ o A' S' (fun _ => rfl) hcode lo σ3 { a with defers := [markOf w.heap.size] ++ a.defers } _ Q hsz hd4 hlo4 hA4 e4.rep (fun σ' a' w' q1 q2 q3 q4 q5 => hQ σ' a' w' q1 q2 q3 q4 (e14.trans q5))
              | exit i =>
                cases hc
                exact hfin (.exit i) (.exit i) rfl A _ o A' S' (fun _ => rfl) hcode lo σ3 { a with defers := [markOf w.heap.size] ++ a.defers } _ Q hsz hd4 hlo4 hA4 e4.rep (fun σ' a' w' q1 q2 q3 q4 q5 => hQ σ' a' w' q1 q2 q3 q4 (e14.trans q5))
        · cases h
      | _ => exact he.elim

theorem code_sound {fns : T AFn} (hK : Known P fns) : ∀ n, CodeSpec P (ev fns n).code := by
  intro n
  induction n using Nat.strongRecOn with
  | _ n ihn =>
    cases n with
    | zero => intro ro m nt C c hC A S o A' S' hds h; cases h
    | succ n =>
      have ih := ihn n (Nat.lt_succ_self n)
      have hcall : CallSpec P (ev fns n).call := by
        cases n with
        | zero => intro f args S v S' h; cases h
        | succ k => exact call_sound hK (ihn k (by omega))
      intro ro m nt C c hC A S o A' S' hds h lo σ a w Q hsz hdef hlo hF hR hQ
      cases C with
      | skip =>
        cases hC
        cases h
        exact wpIn_skip (hQ σ a w rfl hsz hdef hF (Ext.refl hR))
      | seq x y =>
        simp only [cCode] at hC
        split at hC
        · rename_i cx cy hx hy
          cases hC
          obtain ⟨⟨o1, A1, S1⟩, h1, h2⟩ := osel_eq_some (show (osel ((ev fns n).code cx A S) (seqK cy (ev fns n))) = some (o, A', S') from h)
          refine wpIn_seq (ih ro m nt x cx hx A S o1 A1 S1 hds h1 lo σ a w _ hsz hdef hlo hF hR ?_)
          intro σ1 a1 w1 i1 s1 d1 f1 e1
          obtain ⟨F1, q1⟩ := A1
          simp only at i1
          subst i1
          have l1 := Nat.le_trans hlo e1.size
          unfold seqK at h2
          cases o1 with
          | normal => exact ih ro m nt y cy hy ⟨F1, A.inr⟩ S1 o A' S' hds h2 lo σ1 a1 w1 Q s1 d1 l1 f1 e1.rep (fun σ' a' w' q1 q2 q3 q4 q5 => hQ σ' a' w' q1 q2 q3 q4 (e1.trans q5))
          | exit i => cases h2; exact hQ σ1 a1 w1 rfl s1 d1 f1 e1
          | ret => cases h2; exact hQ σ1 a1 w1 rfl s1 d1 f1 e1
        · cases hC
      | cond x y z =>
        simp only [cCode] at hC
        split at hC
        · rename_i cc cy cz hx hy hz
          cases hC
          have h : condK (cc.val A.F) cy cz (ev fns n) A S = some (o, A', S') := h
          have hv := opd_sound (a := a) hF hR hx
          unfold condK at h
          split at h
          · rename_i t ht
            rw [ht] at hv
            simp only [Rv] at hv
            refine wpIn_cond hv ?_
            cases t
            · exact ih ro m nt z cz hz A S o A' S' hds h lo σ a w Q hsz hdef hlo hF hR hQ
            · exact ih ro m nt y cy hy A S o A' S' hds h lo σ a w Q hsz hdef hlo hF hR hQ
          · cases h
        · cases hC
      | block id x =>
        simp only [cCode, Option.map_eq_some_iff] at hC
        obtain ⟨cx, hx, rfl⟩ := hC
        obtain ⟨⟨o1, A1, S1⟩, h1, h2⟩ := osel_eq_some (show (osel ((ev fns n).code cx A S) (blockK id)) = some (o, A', S') from h)
        refine wpIn_block (ih ro m nt x cx hx A S o1 A1 S1 hds h1 lo σ a w _ hsz hdef hlo hF hR ?_)
        intro σ1 a1 w1 i1 s1 d1 f1 e1
        obtain ⟨F1, q1⟩ := A1
        simp only at i1
        subst i1
        have l1 := Nat.le_trans hlo e1.size
        unfold blockK at h2
        cases o1 with
        | normal => cases h2; exact hQ σ1 a1 w1 rfl s1 d1 f1 e1
        | ret => cases h2; exact hQ σ1 a1 w1 rfl s1 d1 f1 e1
        | exit i =>
          simp only at h2
          rw [bsel_eq] at h2
          show (if i = id then Q .normal a1 w1 else Q (.exit i) a1 w1)
          split at h2
          · rename_i he
            rw [Nat.beq_eq] at he
            rw [if_pos he]
            cases h2
            exact hQ σ1 a1 w1 rfl s1 d1 f1 e1
          · rename_i he
            rw [Nat.beq_eq] at he
            rw [if_neg he]
            cases h2
            exact hQ σ1 a1 w1 rfl s1 d1 f1 e1
      | loop x =>
        simp only [cCode, Option.map_eq_some_iff] at hC
        obtain ⟨cx, hx, rfl⟩ := hC
        exact wpIn_loop_rounds (n + 1) (loop_sound hx (n + 1) ihn A S o A' S' hds h lo σ a w Q hsz hdef hlo hF hR hQ)
      | exit id =>
        cases hC
        cases h
        exact wpIn_exit (hQ σ a w rfl hsz hdef hF (Ext.refl hR))
      | ret =>
        cases hC
        cases h
        exact wpIn_ret (hQ σ a w rfl hsz hdef hF (Ext.refl hR))
      | region id ops d =>
        simp only [cCode, Bool.cond_eq_ite] at hC
        split at hC
        · rename_i hd
          subst hd
          obtain ⟨aos, rfl⟩ : ∃ aos, c = .drw aos := by
            unfold cDrawn at hC
            split at hC
            · rw [Bool.cond_eq_ite] at hC
              split at hC
              · cases hC; exact ⟨_, rfl⟩
              · cases hC
            · cases hC
          obtain ⟨⟨F1, S1⟩, h1, h2⟩ := osel_eq_some (show (osel (evDrawn aos (ev fns n).call A.F S) fun r => some (Out.normal, (⟨r.1, A.inr⟩ : Act'), r.2)) = some (o, A', S') from h)
          cases h2
          exact hK.drawn _ hcall ro m nt id ops aos hC σ A.F F1 S S1 a w Q hsz hF hR h1 (fun σ' a' w' q1 q2 q3 q4 => hQ σ' a' w' rfl q2 (by rw [q3]; exact hdef.ext hR q4) q1 q4)
        · rename_i hd
          have hd : d = false := by simpa using hd
          subst hd
          obtain ⟨aos, haos, rfl⟩ := Option.map_eq_some_iff.1 hC
          obtain ⟨⟨F1, S1⟩, h1, h2⟩ := osel_eq_some (show (osel (evOps aos (ev fns n).call A.F S) fun r => some (Out.normal, (⟨r.1, A.inr⟩ : Act'), r.2)) = some (o, A', S') from h)
          cases h2
          refine wpIn_region ?_
          rw [List.range_eq_range', ← Array.length_toList]
          exact evOps_sound hK.asked hK.bits hcall ops.toList 0 [] aos σ A.F F1 S S1 a w (fun j => by simp) haos hsz hF hR h1 (fun σ' a' w' q1 q2 q3 q4 => hQ σ' a' w' rfl q2 (by rw [q3]; exact hdef.ext hR q4) q1 q4)
      | rangeFunc f ps x y =>
        simp only [cCode, Bool.cond_eq_ite] at hC
        split at hC
        · rename_i hps
          split at hC
          · rename_i cf cx cy hf hx hy
            cases hC
            exact rng_sound hK ih hcall (fun k hk => by subst hk; exact ihn k (by omega)) hf hx hy hps hds h hsz hdef hlo hF hR hQ
          · cases hC
        · cases hC
      | scope x => cases hC
      | label l => cases hC
      | goto l => cases hC
      | refuse s => cases hC

/-- THE EVALUATOR's WORD on a call. -/
theorem ev_sound {fns : T AFn} (hK : Known P fns) (n : Nat) : CallSpec P (ev fns n).call := by
  cases n with
  | zero => intro f args S v S' h; cases h
  | succ k => exact call_sound hK (code_sound hK k)
end Go.Ev
