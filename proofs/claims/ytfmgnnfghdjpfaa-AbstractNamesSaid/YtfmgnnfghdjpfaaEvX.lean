import Derived.Test.YtfmgnnfghdjpfaaEvW
namespace Go.Ev
variable {P : Program} {σ : Env} {S : St} {w : World}

/-- the fence that lets everything by, in a round or in none -/
def Fw (ro : Option Nat) : Fence := { Fence.wide with round := ro }

theorem callsIn_any {ro : Option Nat} {n m : Nat} {f : FuncId} {args : Array Value} {R : Ending → World → Prop} (h : CallsIn Fence.wide m P f args w R) : CallsIn (Fw ro) n P f args w R :=
  ⟨trivial, fun cs _ => h.2 cs (room_wide _)⟩
theorem roundIn_any {ro : Option Nat} {n m l : Nat} {f : FuncId} {tmps : Array Value} {as bd : Code} {R : Ending → World → Prop} (h : RoundIn Fence.wide m P l f tmps as bd w R) : RoundIn (Fw ro) n P l f tmps as bd w R :=
  ⟨trivial, fun c cs _ => h.2 c cs (room_wide _)⟩

theorem NextIn.mono {R R' : Value → World → Prop} {r : Result Next} (h : NextIn P R r) (hr : ∀ v w, R v w → R' v w) : NextIn P R' r := by
  unfold NextIn at *
  split at h
  · exact hr _ _ h
  · exact hr _ _ h
  · exact CallsIn.mono h fun e w' he => by cases e <;> first | exact hr _ _ he | exact he
  · exact RoundIn.mono h fun e w' he => by cases e <;> first | exact hr _ _ he | exact he
  · exact h.elim

theorem upon_of_next {ro : Option Nat} {n : Nat} {o : Oper} {a : Act} {next : Act → World → Prop} {Q : Exit → Act → World → Prop} {R : Value → World → Prop} {r : Result Next} (h : NextIn P R r)
    (hr : ∀ v w, R v w → next (a.put o.dst v) w) : o.uponIn (Fw ro) n P a next Q r := by
  unfold NextIn at h
  split at h
  · exact hr _ _ h
  · exact hr _ _ h
  · refine ⟨fun hd => by simp [Fw, Fence.wide] at hd, callsIn_any (CallsIn.mono h fun e w' he => ?_)⟩
    cases e with
    | returned v => exact hr _ _ he
    | panicked c => exact he.elim
    | outgrown => exact he.elim
  · refine ⟨fun hd => by simp [Fw, Fence.wide] at hd, roundIn_any (RoundIn.mono h fun e w' he => ?_)⟩
    cases e with
    | returned v => exact hr _ _ he
    | panicked c => exact he.elim
    | outgrown => exact he.elim
  · exact h.elim

/-! ## The frame -/
theorem tmpV_eq (t : Nat) (F : Fr) : tmpV t F = (F.get t).getD .undef := by
  unfold tmpV
  cases F.get t <;> rfl
theorem tmpV_set (F : Fr) (d t : Nat) (v : AV) : tmpV t (F.set d (some v)) = if t = d then v else tmpV t F := by
  rw [tmpV_eq, T.get_set]
  split
  · rfl
  · rw [tmpV_eq]
theorem FrR.put {F : Fr} {a : Act} {d : Option Tmp} {v : AV} {V : Value} (hF : FrR P σ F a.tmps) (hd : dstOk a.tmps.size d = true) (hv : Rv P σ v V) : FrR P σ (putF d F v) (a.put d V).tmps := by
  cases d with
  | none => exact hF
  | some d =>
    have hlt : d < a.tmps.size := Nat.le_of_ble_eq_true hd
    refine ⟨fun t => ?_⟩
    show Rv P σ (tmpV t (F.set d (some v))) _
    rw [tmpV_set]
    simp only [Act.put, Array.getD_eq_getD_getElem?, Array.getElem?_setIfInBounds]
    split
    · rename_i e; subst e; simp [hlt]; exact hv
    · rename_i hne; rw [if_neg (Ne.symm hne)]; have := hF.get t; simpa [Array.getD_eq_getD_getElem?] using this
theorem put_size (a : Act) (d : Option Tmp) (V : Value) : (a.put d V).tmps.size = a.tmps.size := by cases d <;> simp [Act.put]
theorem put_defers (a : Act) (d : Option Tmp) (V : Value) : (a.put d V).defers = a.defers := by cases d <;> rfl

theorem wants_sound {ops : Array Oper} {o : Oper} {g : Option (Nat × Bool)} (hg : cGuard ops o.guard = some g) {F : Fr} {tmps : Array Value} (hF : FrR P σ F tmps) : Region.wanted o (yielded ops tmps) = wants g F := by
  unfold Region.wanted
  cases ho : o.guard with
  | none =>
    rw [ho] at hg
    simp only [cGuard, Option.some.injEq] at hg
    subst hg
    rfl
  | some jw =>
    obtain ⟨j, want⟩ := jw
    rw [ho] at hg
    simp only [cGuard] at hg
    split at hg
    · rename_i d hd
      cases hg
      show (yielded ops tmps j == some want) = isB (tmpV d F) want
      have hv := hF.get d
      unfold yielded
      rw [hd]
      simp only [Option.bind_some]
      have hgd : tmps.getD d undef = (tmps[d]?).getD undef := Array.getD_eq_getD_getElem? ..
      rw [hgd] at hv
      cases ht : tmps[d]? with
      | none =>
        rw [ht] at hv
        simp only [Option.getD_none] at hv
        cases hb : tmpV d F <;> rw [hb] at hv <;> simp only [isB] <;> first | rfl | (simp only [Rv, undef, reduceCtorEq] at hv)
      | some X =>
        rw [ht] at hv
        simp only [Option.getD_some] at hv
        cases hb : tmpV d F <;> rw [hb] at hv <;> simp only [isB] <;> simp only [Rv] at hv
        case bool b => subst hv; simp only [beq2_eq]; cases b <;> cases want <;> rfl
        all_goals first
          | (subst hv; rfl)
          | (obtain ⟨rfl, _⟩ := hv; rfl)
          | (obtain ⟨L, _, rfl⟩ := hv; rfl)
          | (obtain ⟨A, c, rfl⟩ := hv; rfl)
          | (obtain ⟨A, B, rfl, _⟩ := hv; rfl)
          | (obtain ⟨A, rfl, _⟩ := hv; rfl)
    · cases hg

theorem semAt_eq {o : Oper} {r : Option Nat} {ρ : Operand → Value} (h : ∀ c, o.op ≠ .defer c) : o.semAt r ρ = execOp ρ o := by
  unfold Oper.semAt
  split
  · rename_i h1; exact absurd h1 (h _)
  · rfl

theorem cOp_noDefer {op : Op} {r : AOp} (h : cOp P op = some r) : ∀ c, op ≠ .defer c := by
  rintro c rfl
  cases h

/-- one compiled operation, taken apart -/
theorem cOper_some {nt : Nat} {ops : Array Oper} {o : Oper} {m : Nat} {ao : AO} (h : cOper P nt ops o m = some ao) :
    dstOk nt o.dst = true ∧ cGuard ops o.guard = some ao.grd ∧ ao.dst = o.dst ∧ ao.mask = m ∧ (cOp P o.op = some ao.op ∨ ao.op = .x .bad) := by
  unfold cOper at h
  rw [Bool.cond_eq_ite] at h
  split at h
  · rename_i hd
    split at h
    · rename_i g hg
      split at h
      · rename_i op hop; cases h; exact ⟨hd, hg, rfl, rfl, .inl hop⟩
      · cases h; exact ⟨hd, hg, rfl, rfl, .inr rfl⟩
    · cases h
  · cases h

/-- ONE OPERATION, WHATEVER IT IS. -/
theorem evOp_sound (hA : Asked P) (hB : BitsSound P) {call : CallF} (hcall : CallSpec P call) {ao : AO} {o : Oper} (hop : cOp P o.op = some ao.op ∨ ao.op = .x .bad) {F F' : Fr} {a : Act} (hdst : ao.dst = o.dst) (hd : dstOk a.tmps.size o.dst = true)
    (hF : FrR P σ F a.tmps) (hR : Rep P σ S w) {S' : St} (h : oOp ao.op ao.dst call F S = some (F', S')) :
    (∀ c, o.op ≠ .defer c) ∧ NextIn P (fun V w' => ∃ σ', FrR P σ' F' (a.put o.dst V).tmps ∧ Ext P σ S w σ' S' w') ((execOp a.eval o).run P w) := by
  rcases hop with hop | hop
  · refine ⟨cOp_noDefer hop, ?_⟩
    cases hao : ao.op with
    | q qo =>
      rw [hao] at h hop
      obtain ⟨v, h1, h2⟩ := osel_eq_some (show (osel (evQ qo F S.h) fun v => some (putF ao.dst F v, S)) = some (F', S') from h)
      cases h2
      obtain ⟨V, h3, h4⟩ := evQ_sound hA hop hF hR h1
      rw [h3]
      exact ⟨σ, by rw [hdst]; exact hF.put hd h4, Ext.refl hR⟩
    | a al =>
      rw [hao] at h hop
      obtain ⟨⟨v, bl⟩, h1, h2⟩ := osel_eq_some (show (osel (evA al F S.nx) fun r => some (putF ao.dst F r.1, (⟨S.h.set S.nx (some r.2), Nat.succ S.nx⟩ : St))) = some (F', S') from h)
      cases h2
      obtain ⟨V, w', h3, ob, e, m1, m2, m3, m4, m5, m6, m7⟩ := evA_sound hop hF hR S.nx (hR.fresh _ (Nat.le_refl _)) h1
      rw [h3]
      have hext := Ext.alloc hR m1 m2 m3 m4 m5 m6
      exact ⟨_, by rw [hdst]; exact (hF.mono (hext.mono hR)).put hd m7, hext⟩
    | x xo =>
      rw [hao] at h hop
      obtain ⟨⟨v, S1⟩, h1, h2⟩ := osel_eq_some (show (osel (evX xo call F S) fun r => some (putF ao.dst F r.1, r.2)) = some (F', S') from h)
      cases h2
      refine (evX_sound hA hB hcall hop hF hR h1).mono ?_
      rintro V w' ⟨σ', h3, h4⟩
      exact ⟨σ', by rw [hdst]; exact (hF.mono (h4.mono hR)).put hd h3, h4⟩
  · rw [hop] at h
    obtain ⟨r, h1, _⟩ := osel_eq_some (show (osel (evX .bad call F S) fun r => some (putF ao.dst F r.1, r.2)) = some (F', S') from h)
    cases h1

theorem evOps_cons (o : AO) (os : List AO) (call : CallF) (F : Fr) (S : St) : evOps (o :: os) call F S = osel (evOp o call F S) fun r => evOps os call r.1 r.2 := rfl

/-- A PLAIN REGION. -/
theorem evOps_sound (hA : Asked P) (hB : BitsSound P) {call : CallF} (hcall : CallSpec P call) {ro : Option Nat} {n nt : Nat} {ops : Array Oper} {Q : Exit → Act → World → Prop} :
    ∀ (l : List Oper) (k : Nat) (ms : List Nat) (aos : List AO) (σ : Env) (F F' : Fr) (S S' : St) (a : Act) (w : World), (∀ j, l[j]? = ops[k + j]?) → cOpers P nt ops l ms = some aos → a.tmps.size = nt → FrR P σ F a.tmps → Rep P σ S w →
      evOps aos call F S = some (F', S') → (∀ σ' a' w', FrR P σ' F' a'.tmps → a'.tmps.size = nt → a'.defers = a.defers → Ext P σ S w σ' S' w' → Q .normal a' w') →
      wpOpsIn (Fw ro) n P ops Q (List.range' k l.length) a w
  | [], k, ms, aos, σ, F, F', S, S', a, w, hl, hc, hn, hF, hR, h, hQ => by
    simp only [cOpers, Option.some.injEq] at hc
    subst hc
    cases h
    exact hQ σ a w hF hn rfl (Ext.refl hR)
  | o :: l, k, ms, aos, σ, F, F', S, S', a, w, hl, hc, hn, hF, hR, h, hQ => by
    simp only [cOpers] at hc
    split at hc
    · rename_i ao aos' hao haos
      cases hc
      obtain ⟨hd, hg, hdst, _, hop⟩ := cOper_some hao
      rw [evOps_cons] at h
      obtain ⟨⟨F1, S1⟩, h1, h2⟩ := osel_eq_some h
      have ho : ops[k]? = some o := by have := hl 0; simpa using this.symm
      have hl' : ∀ j, l[j]? = ops[(k + 1) + j]? := fun j => by have := hl (j + 1); simpa [Nat.add_assoc, Nat.add_comm 1 j] using this
      simp only [List.length_cons, List.range'_succ, wpOpsIn, ho]
      rw [wants_sound hg hF]
      unfold evOp at h1
      rw [bsel_eq] at h1
      have hd' : dstOk a.tmps.size o.dst = true := by rw [hn]; exact hd
      split at h1
      · rename_i hw
        rw [if_pos hw]
        obtain ⟨hnd, hnext⟩ := evOp_sound hA hB hcall hop hdst hd' hF hR h1
        refine ⟨fun _ _ => trivial, ?_⟩
        rw [semAt_eq hnd]
        refine upon_of_next hnext ?_
        rintro V w' ⟨σ1, hF1, hE1⟩
        exact evOps_sound hA hB hcall l (k + 1) ms.tail aos' σ1 F1 F' S1 S' _ w' hl' haos (by rw [put_size]; exact hn) hF1 hE1.rep h2 (fun σ' a' w'' q1 q2 q3 q4 => hQ σ' a' w'' q1 q2 (by rw [q3, put_defers]) (hE1.trans q4))
      · rename_i hw
        rw [if_neg hw]
        cases h1
        refine ⟨fun _ _ => trivial, ?_⟩
        have hund : Rv P σ .undef undef := by simp only [AV.undef, undef, Rv]; exact ⟨[], rfl, Rvs_nil.2 rfl⟩
        exact evOps_sound hA hB hcall l (k + 1) ms.tail aos' σ _ F' S S' _ w hl' haos (by rw [put_size]; exact hn) (by rw [hdst]; exact hF.put hd' hund) hR h2 (fun σ' a' w'' q1 q2 q3 q4 => hQ σ' a' w'' q1 q2 (by rw [q3, put_defers]) q4)
    · cases hc
end Go.Ev
