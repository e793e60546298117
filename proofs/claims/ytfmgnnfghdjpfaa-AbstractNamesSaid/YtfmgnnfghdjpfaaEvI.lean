import Derived.Test.YtfmgnnfghdjpfaaEvH
namespace Go.Ev
variable {P : Program} {σ : Env} {S : St} {w : World}

theorem intOfV_some {v : AV} {a : IntKind × Int} (h : intOfV v = some a) : v = .int a.1 a.2 := by
  cases v <;> simp only [intOfV, reduceCtorEq, Option.some.injEq] at h
  subst h; rfl
theorem strOfV_some {v : AV} {a : List Nat} (h : strOfV v = some a) : v = .str a := by
  cases v <;> simp only [strOfV, reduceCtorEq, Option.some.injEq] at h
  subst h; rfl

/-- what is asked of a comparison of structs and arrays -/
def EqSound (P : Program) : Prop := ∀ (σ : Env) (w : World) (t : TypeId) (fs : List (Nat × EqP)) (xs ys : List AV) (X Y : Value) (b : Bool), eqT P t = .struct fs → Rv P σ (.agg xs) X → Rv P σ (.agg ys) Y →
  eqs fs xs ys = some b → (∀ op xo yo, (eqGuard op t xo yo X Y).run P w = .ok () w) ∧ ∀ n, (Op.equalIn (n + 2) t X Y).run P w = .ok b w

theorem eqT_p {t : TypeId} {e : EqP} (h : eqT P t = .p e) : e = eqP P t ∨ e = .no := by
  unfold eqT at h
  split at h
  · rw [Bool.cond_eq_ite] at h
    split at h
    · cases h; exact .inr rfl
    · cases h
  · rw [Bool.cond_eq_ite] at h
    split at h
    · cases h; exact .inr rfl
    · cases h
  · cases h; exact .inl rfl

theorem eqv_sound (hE : EqSound P) {t : TypeId} {x y : AV} {X Y : Value} {b : Bool} (hx : Rv P σ x X) (hy : Rv P σ y Y) (h : eqv (eqT P t) x y = some b) :
    (∀ op xo yo, (eqGuard op t xo yo X Y).run P w = .ok () w) ∧ ∀ n, (Op.equalIn (n + 2) t X Y).run P w = .ok b w := by
  cases he : eqT P t with
  | p e =>
    rw [he] at h
    have h : eqp e x y = some b := h
    rcases eqT_p he with rfl | rfl
    · exact ⟨fun op xo yo => by rw [eqp_guard hx hy h]; rfl, fun n => eqp_sound hx hy h (n + 1)⟩
    · simp [eqp] at h
  | struct fs =>
    rw [he] at h
    cases x <;> simp only [eqv, reduceCtorEq] at h
    cases y <;> simp only [eqv, reduceCtorEq] at h
    obtain ⟨_, h⟩ := bsel_some h
    obtain ⟨_, h⟩ := bsel_some h
    exact hE σ w t fs _ _ X Y b he hx hy h

theorem bin_sound (hE : EqSound P) {op : BinOp} {t : TypeId} {xo yo : Operand} {x y v : AV} {X Y : Value} (hx : Rv P σ x X) (hy : Rv P σ y Y) (h : binV op (eqT P t) x y = some v) :
    ∃ V, (do eqGuard op t xo yo X Y; binOp op t X Y : Sem Value).run P w = .ok V w ∧ Rv P σ v V := by
  unfold binV at h
  split at h
  · rename_i a b ha hb
    have := intOfV_some ha
    subst this
    have := intOfV_some hb
    subst this
    simp only [Rv] at hx hy
    subst hx; subst hy
    obtain ⟨V, h1, h2⟩ := ints_sound (P := P) (σ := σ) (w := w) (t := t) h
    exact ⟨V, by simp [eqGuard_at_int, h1], h2⟩
  · rename_i hni
    split at h
    · rename_i a b ha hb
      have := strOfV_some ha
      subst this
      have := strOfV_some hb
      subst this
      simp only [Rv] at hx hy
      obtain ⟨rfl, hx⟩ := hx
      obtain ⟨rfl, hy⟩ := hy
      obtain ⟨V, h1, h2⟩ := str_sound (P := P) (σ := σ) (w := w) (t := t) hx hy h
      exact ⟨V, by simp [eqGuard_at_string, h1], h2⟩
    · rename_i hns
      unfold eqBin at h
      have key : ∀ b, eqv (eqT P t) x y = some b → (binOp .eql t X Y).run P w = .ok (.bool b) w ∧ (binOp .neq t X Y).run P w = .ok (.bool !b) w := by
        intro b hb
        have he := (eqv_sound (w := w) hE hx hy hb).2 9998
        have h1 : (Op.equal t X Y).run P w = .ok b w := he
        have hnn : ∀ k a k' b', ¬ (X = .int k a ∧ Y = .int k' b') := by
          rintro k a k' b' ⟨rfl, rfl⟩
          cases x <;> simp only [Rv] at hx <;> (try (simp at hx; done)) <;> (try (obtain ⟨_, hx⟩ := hx; simp at hx; done)) <;> (try (obtain ⟨_, _, hx⟩ := hx; simp at hx; done))
          cases y <;> simp only [Rv] at hy <;> (try (simp at hy; done)) <;> (try (obtain ⟨_, hy⟩ := hy; simp at hy; done)) <;> (try (obtain ⟨_, _, hy⟩ := hy; simp at hy; done))
          exact hni _ _ rfl rfl
        have hsn : ∀ a b', ¬ (X = .string a ∧ Y = .string b') := by
          rintro a b' ⟨rfl, rfl⟩
          cases x <;> simp only [Rv] at hx <;> (try (simp at hx; done)) <;> (try (obtain ⟨_, hx⟩ := hx; simp at hx; done)) <;> (try (obtain ⟨_, _, hx⟩ := hx; simp at hx; done))
          cases y <;> simp only [Rv] at hy <;> (try (simp at hy; done)) <;> (try (obtain ⟨_, hy⟩ := hy; simp at hy; done)) <;> (try (obtain ⟨_, _, hy⟩ := hy; simp at hy; done))
          exact hns _ _ rfl rfl
        have hff : ∀ k a, X ≠ .float k a := by
          rintro k a rfl
          cases x <;> simp only [Rv] at hx <;> (try (simp at hx; done)) <;> (try (obtain ⟨_, hx⟩ := hx; simp at hx; done)) <;> (try (obtain ⟨_, _, hx⟩ := hx; simp at hx; done))
        have hcc : ∀ k a b, X ≠ .complex k a b := by
          rintro k a b rfl
          cases x <;> simp only [Rv] at hx <;> (try (simp at hx; done)) <;> (try (obtain ⟨_, hx⟩ := hx; simp at hx; done)) <;> (try (obtain ⟨_, _, hx⟩ := hx; simp at hx; done))
        have hb : ∀ (op : BinOp), (op = .eql → binOp op t X Y = (do pure (.bool (← Op.equal t X Y)))) ∧ (op = .neq → binOp op t X Y = (do pure (.bool (!(← Op.equal t X Y))))) := by
          intro op
          constructor
          · rintro rfl
            unfold binOp
            split <;> first
              | rfl
              | (rename_i h; exact absurd ⟨rfl, rfl⟩ (hnn _ _ _ _))
              | (exact absurd rfl (hff _ _))
              | (exact absurd rfl (hcc _ _ _))
              | (exact absurd ⟨rfl, rfl⟩ (hsn _ _))
              | (exact absurd ⟨rfl, rfl⟩ (hnn _ _ _ _))
              | simp_all
          · rintro rfl
            unfold binOp
            split <;> first
              | rfl
              | (exact absurd rfl (hff _ _))
              | (exact absurd rfl (hcc _ _ _))
              | (exact absurd ⟨rfl, rfl⟩ (hsn _ _))
              | (exact absurd ⟨rfl, rfl⟩ (hnn _ _ _ _))
              | simp_all
        rw [(hb .eql).1 rfl, (hb .neq).2 rfl]
        simp [h1]
      cases op <;> simp only [reduceCtorEq] at h
      · obtain ⟨b, h1, h2⟩ := osel_eq_some h
        cases h2
        refine ⟨.bool b, ?_, by simp only [Rv]⟩
        simp [(eqv_sound (w := w) hE hx hy h1).1, (key b h1).1]
      · obtain ⟨b, h1, h2⟩ := osel_eq_some h
        cases h2
        refine ⟨.bool !b, ?_, by simp only [Rv, bnot_eq]⟩
        simp [(eqv_sound (w := w) hE hx hy h1).1, (key b h1).2]

theorem un_sound {op : UnOp} {x v : AV} {X : Value} (hx : Rv P σ x X) (h : unV op x = some v) : ∃ V, (Op.unary op X).run P w = .ok V w ∧ Rv P σ v V := by
  unfold unV at h
  split at h
  · simp only [Rv] at hx; subst hx; cases h
    exact ⟨_, rfl, by simp only [Rv, iSubV_eq]; rfl⟩
  · simp only [Rv] at hx; subst hx; cases h
    exact ⟨_, rfl, by simp only [Rv, bnot_eq]⟩
  · cases h
end Go.Ev
