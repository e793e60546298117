import Derived.Test.YtfmgnnfghdjpfaaEvC
namespace Go.Ev

/-! ## What an abstract value stands for -/
/-- where an abstract block lies: the block, the place in it, and how many elements more its room is -/
structure Loc where
  r : Nat
  d : Nat
  e : Nat
abbrev Env := Nat → Option Loc

def mkStr (s : List Nat) : ByteArray := ⟨(s.map UInt8.ofNat).toArray⟩
def Bytes (s : List Nat) : Prop := ∀ x ∈ s, x < 256

variable (P : Program)
mutual
def Rv (σ : Env) : AV → Value → Prop
  | .bool b, V => V = .bool b
  | .int k n, V => V = .int k n
  | .str s, V => V = .string (mkStr s) ∧ Bytes s
  | .ptr b off, V => ∃ L, σ b = some L ∧ V = .pointer (some ⟨L.r, L.d + off, none⟩)
  | .nilp, V => V = .pointer none
  | .sl b off len cap o, V => ∃ L, σ b = some L ∧ V = .slice (some ⟨L.r, L.d + off, none⟩) len (if o = true then cap + L.e else cap)
  | .nilsl, V => V = .slice none 0 0
  | .emp, V => ∃ a c, V = .slice (some a) 0 c
  | .map b, V => ∃ L, σ b = some L ∧ V = .map (some L.r)
  | .nilmap, V => V = .map none
  | .fn f a b, V => ∃ A B, V = .func (.func f) ⟨A⟩ ⟨B⟩ ∧ Rvs σ a A ∧ Rvs σ b B
  | .nilfn, V => V = .nilFunc
  | .yld b, V => ∃ L, σ b = some L ∧ V = .func (.yield L.r) #[] #[]
  | .iface t v, V => ∃ W, V = .iface t W ∧ Rv σ v W
  | .niliface, V => V = .nilIface
  | .mth n tbl v, V => ∃ W, V = .func (.method n) #[W] #[] ∧ tbl = methodTable P n P.types.toList 0 ∧ Rv σ v W
  | .agg cs, V => ∃ C, V = .agg ⟨C⟩ ∧ Rvs σ cs C ∧ ∀ v ∈ C, v.oneCell' = true
  | .tup cs, V => ∃ C, V = .tuple ⟨C⟩ ∧ Rvs σ cs C
def Rvs (σ : Env) : List AV → List Value → Prop
  | [], Vs => Vs = []
  | a :: as, Vs => ∃ V Ws, Vs = V :: Ws ∧ Rv σ a V ∧ Rvs σ as Ws
end

section
variable {P}
variable {σ : Env}
theorem Rvs_nil {Vs : List Value} : Rvs P σ [] Vs ↔ Vs = [] := by simp [Rvs]
theorem Rvs_cons {a : AV} {as : List AV} {Vs : List Value} : Rvs P σ (a :: as) Vs ↔ ∃ V Ws, Vs = V :: Ws ∧ Rv P σ a V ∧ Rvs P σ as Ws := by simp [Rvs]
theorem Rvs_cons_cons {a : AV} {as : List AV} {V : Value} {Ws : List Value} : Rvs P σ (a :: as) (V :: Ws) ↔ Rv P σ a V ∧ Rvs P σ as Ws := by
  rw [Rvs_cons]
  exact ⟨fun ⟨_, _, h, a, b⟩ => by cases h; exact ⟨a, b⟩, fun ⟨a, b⟩ => ⟨_, _, rfl, a, b⟩⟩
theorem Rvs.length : ∀ {as : List AV} {Vs : List Value}, Rvs P σ as Vs → Vs.length = as.length
  | [], Vs, h => by rw [Rvs_nil] at h; subst h; rfl
  | a :: as, Vs, h => by
    rw [Rvs_cons] at h
    obtain ⟨V, Ws, rfl, _, h⟩ := h
    simp [Rvs.length h]
theorem Rvs.get : ∀ {as : List AV} {Vs : List Value}, Rvs P σ as Vs → ∀ {j : Nat} {a : AV}, as[j]? = some a → ∃ V, Vs[j]? = some V ∧ Rv P σ a V
  | [], Vs, h, j, a, ha => by simp at ha
  | x :: as, Vs, h, j, a, ha => by
    rw [Rvs_cons] at h
    obtain ⟨V, Ws, rfl, hv, h⟩ := h
    cases j with
    | zero => simp at ha; subst ha; exact ⟨V, by simp, hv⟩
    | succ j =>
      simp at ha
      obtain ⟨W, hW, hr⟩ := Rvs.get h ha
      exact ⟨W, by simpa using hW, hr⟩
theorem Rvs.get' : ∀ {as : List AV} {Vs : List Value}, Rvs P σ as Vs → ∀ {j : Nat} {V : Value}, Vs[j]? = some V → ∃ a, as[j]? = some a ∧ Rv P σ a V
  | [], Vs, h, j, V, ha => by rw [Rvs_nil] at h; subst h; simp at ha
  | x :: as, Vs, h, j, V, ha => by
    rw [Rvs_cons] at h
    obtain ⟨W, Ws, rfl, hv, h⟩ := h
    cases j with
    | zero => simp at ha; subst ha; exact ⟨x, by simp, hv⟩
    | succ j =>
      simp at ha
      obtain ⟨b, hb, hr⟩ := Rvs.get' h ha
      exact ⟨b, by simpa using hb, hr⟩
theorem Rvs.append : ∀ {as bs : List AV} {Vs Ws : List Value}, Rvs P σ as Vs → Rvs P σ bs Ws → Rvs P σ (as ++ bs) (Vs ++ Ws)
  | [], bs, Vs, Ws, h, h' => by rw [Rvs_nil] at h; subst h; simpa using h'
  | a :: as, bs, Vs, Ws, h, h' => by
    rw [Rvs_cons] at h
    obtain ⟨V, Us, rfl, hv, h⟩ := h
    exact Rvs_cons.2 ⟨V, Us ++ Ws, rfl, hv, Rvs.append h h'⟩
theorem Rvs.take : ∀ {as : List AV} {Vs : List Value} (n : Nat), Rvs P σ as Vs → Rvs P σ (as.take n) (Vs.take n)
  | [], Vs, n, h => by rw [Rvs_nil] at h; subst h; simp [Rvs_nil]
  | a :: as, Vs, n, h => by
    rw [Rvs_cons] at h
    obtain ⟨V, Us, rfl, hv, h⟩ := h
    cases n with
    | zero => simp [Rvs_nil]
    | succ n => exact Rvs_cons.2 ⟨V, Us.take n, rfl, hv, Rvs.take n h⟩
theorem Rvs.drop : ∀ {as : List AV} {Vs : List Value} (n : Nat), Rvs P σ as Vs → Rvs P σ (as.drop n) (Vs.drop n)
  | [], Vs, n, h => by rw [Rvs_nil] at h; subst h; simp [Rvs_nil]
  | a :: as, Vs, n, h => by
    cases n with
    | zero => simpa using h
    | succ n =>
      rw [Rvs_cons] at h
      obtain ⟨V, Us, rfl, hv, h⟩ := h
      simpa using Rvs.drop n h
theorem Rvs.cut {as r : List AV} {Vs : List Value} {i n : Nat} (h : Rvs P σ as Vs) (hc : cut as i n = some r) :
    Rvs P σ r ((Vs.drop i).take n) ∧ ((Vs.drop i).take n).length = n := by
  obtain ⟨rfl, hl⟩ := cut_some hc
  have := (h.drop i).take n
  exact ⟨this, by rw [this.length, hl]⟩
theorem Rvs.put {as r vs : List AV} {Vs Ws : List Value} {k : Nat} (h : Rvs P σ as Vs) (hv : Rvs P σ vs Ws) (hp : put as k vs = some r) :
    Rvs P σ r (Vs.take k ++ Ws ++ Vs.drop (k + Ws.length)) := by
  obtain ⟨_, rfl⟩ := put_some hp
  rw [hv.length]
  exact ((h.take k).append hv).append (h.drop _)

/-! ### the environment grows -/
theorem Rv_mono_both {σ σ' : Env} (hs : ∀ b L, σ b = some L → σ' b = some L) : (∀ v V, Rv P σ v V → Rv P σ' v V) ∧ (∀ vs Vs, Rvs P σ vs Vs → Rvs P σ' vs Vs) := by
  have key : ∀ n : Nat, (∀ v V, SizeOf.sizeOf v < n → Rv P σ v V → Rv P σ' v V) ∧ (∀ vs Vs, SizeOf.sizeOf vs < n → Rvs P σ vs Vs → Rvs P σ' vs Vs) := by
    intro n
    induction n with
    | zero => exact ⟨fun v V h => absurd h (Nat.not_lt_zero _), fun v V h => absurd h (Nat.not_lt_zero _)⟩
    | succ n ih =>
      refine ⟨fun v V hn h => ?_, fun vs Vs hn h => ?_⟩
      · cases v <;> simp only [Rv] at h ⊢ <;> (try exact h)
        · obtain ⟨L, h1, h2⟩ := h; exact ⟨L, hs _ _ h1, h2⟩
        · obtain ⟨L, h1, h2⟩ := h; exact ⟨L, hs _ _ h1, h2⟩
        · obtain ⟨L, h1, h2⟩ := h; exact ⟨L, hs _ _ h1, h2⟩
        · obtain ⟨A, B, h1, h2, h3⟩ := h
          exact ⟨A, B, h1, ih.2 _ _ (by simp at hn; omega) h2, ih.2 _ _ (by simp at hn; omega) h3⟩
        · obtain ⟨L, h1, h2⟩ := h; exact ⟨L, hs _ _ h1, h2⟩
        · obtain ⟨W, h1, h2⟩ := h; exact ⟨W, h1, ih.1 _ _ (by simp at hn; omega) h2⟩
        · obtain ⟨W, h1, h2, h3⟩ := h; exact ⟨W, h1, h2, ih.1 _ _ (by simp at hn; omega) h3⟩
        · obtain ⟨C, h1, h2, h3⟩ := h; exact ⟨C, h1, ih.2 _ _ (by simp at hn; omega) h2, h3⟩
        · obtain ⟨C, h1, h2⟩ := h; exact ⟨C, h1, ih.2 _ _ (by simp at hn; omega) h2⟩
      · cases vs with
        | nil => simpa [Rvs] using h
        | cons a as =>
          rw [Rvs_cons] at h ⊢
          obtain ⟨V, Ws, h1, h2, h3⟩ := h
          exact ⟨V, Ws, h1, ih.1 _ _ (by simp at hn; omega) h2, ih.2 _ _ (by simp at hn; omega) h3⟩
  exact ⟨fun v V h => (key (SizeOf.sizeOf v + 1)).1 v V (by omega) h, fun vs Vs h => (key (SizeOf.sizeOf vs + 1)).2 vs Vs (by omega) h⟩
theorem Rv.mono {σ σ' : Env} (hs : ∀ b L, σ b = some L → σ' b = some L) {v : AV} {V : Value} (h : Rv P σ v V) : Rv P σ' v V := (Rv_mono_both hs).1 v V h
theorem Rvs.mono {σ σ' : Env} (hs : ∀ b L, σ b = some L → σ' b = some L) {v : List AV} {V : List Value} (h : Rvs P σ v V) : Rvs P σ' v V := (Rv_mono_both hs).2 v V h

/-! ### constants -/
theorem flatV_one (v : Value) (h : flatV v = true) : v.oneCell' = true := by cases v <;> simp_all [flatV, Value.oneCell']
theorem mkStr_bytes (s : ByteArray) : mkStr (s.data.toList.map UInt8.toNat) = s ∧ Bytes (s.data.toList.map UInt8.toNat) := by
  constructor
  · obtain ⟨⟨l⟩⟩ := s
    simp [mkStr, Function.comp_def]
  · intro x hx
    obtain ⟨b, _, rfl⟩ := List.mem_map.1 hx
    exact b.toNat_lt
theorem ofValue_both (σ : Env) : ∀ n : Nat, (∀ V v, SizeOf.sizeOf V < n → ofValue V = some v → Rv P σ v V) ∧ (∀ Vs vs, SizeOf.sizeOf Vs < n → ofValues Vs = some vs → Rvs P σ vs Vs) := by
  intro n
  induction n with
  | zero => exact ⟨fun V v h => absurd h (Nat.not_lt_zero _), fun V v h => absurd h (Nat.not_lt_zero _)⟩
  | succ n ih =>
    refine ⟨fun V v hn h => ?_, fun Vs vs hn h => ?_⟩
    · unfold ofValue at h
      split at h
      · cases h; simp [Rv]
      · cases h; simp [Rv]
      · cases h
        simp only [Rv]
        exact ⟨by rw [(mkStr_bytes _).1], (mkStr_bytes _).2⟩
      · cases h; simp [Rv]
      · cases h; simp [Rv]
      · cases h; simp [Rv]
      · cases h; simp [Rv]
      · cases h; simp [Rv]
      · split at h
        · rename_i a' b' ha hb
          cases h
          simp only [Rv]
          exact ⟨_, _, rfl, ih.2 _ _ (by simp at hn; omega) ha, ih.2 _ _ (by simp at hn; omega) hb⟩
        · cases h
      · rename_i t w
        obtain ⟨x, hx, rfl⟩ := Option.map_eq_some_iff.1 h
        simp only [Rv]
        exact ⟨w, rfl, ih.1 _ _ (by simp at hn; omega) hx⟩
      · rename_i cs
        rw [Bool.cond_eq_ite] at h
        split at h
        · rename_i hall
          obtain ⟨x, hx, rfl⟩ := Option.map_eq_some_iff.1 h
          simp only [Rv]
          exact ⟨cs, rfl, ih.2 _ _ (by simp at hn; omega) hx, fun v hv => flatV_one v (List.all_eq_true.1 hall v hv)⟩
        · cases h
      · rename_i cs
        obtain ⟨x, hx, rfl⟩ := Option.map_eq_some_iff.1 h
        simp only [Rv]
        exact ⟨cs, rfl, ih.2 _ _ (by simp at hn; omega) hx⟩
      · cases h
    · cases Vs with
      | nil => simp [ofValues] at h; subst h; simp [Rvs]
      | cons V Vs =>
        unfold ofValues at h
        split at h
        · rename_i a as ha has
          cases h
          exact Rvs_cons.2 ⟨V, Vs, rfl, ih.1 _ _ (by simp at hn; omega) ha, ih.2 _ _ (by simp at hn; omega) has⟩
        · cases h
theorem Rv_ofValue {σ : Env} {V : Value} {v : AV} (h : ofValue V = some v) : Rv P σ v V := (ofValue_both σ (SizeOf.sizeOf V + 1)).1 V v (by omega) h

/-! ### the cells of a value -/
theorem Rv_cells {v : AV} {V : Value} {cs : List AV} (h : Rv P σ v V) (hc : v.cells = some cs) : Rvs P σ cs V.cells.toList ∧ (∀ u ∈ V.cells.toList, u.oneCell' = true) := by
  cases v <;> simp only [AV.cells, Option.some.injEq, reduceCtorEq] at hc <;> subst hc <;> simp only [Rv] at h
  case agg cs =>
    obtain ⟨C, rfl, h2, h3⟩ := h
    exact ⟨h2, h3⟩
  all_goals
    first
      | (subst h; simp [Value.cells, Rvs, Rv, Value.oneCell'])
      | (obtain ⟨rfl, h⟩ := h; simp [Value.cells, Rvs, Rv, Value.oneCell', h])
      | (obtain ⟨x, h, rfl⟩ := h; simp [Value.cells, Rvs, Rv, Value.oneCell', h])
      | (obtain ⟨x, y, rfl⟩ := h; simp [Value.cells, Rvs, Rv, Value.oneCell'])
      | (obtain ⟨x, y, rfl, h, h'⟩ := h; exact ⟨Rvs_cons.2 ⟨_, [], rfl, by simp only [Rv]; exact ⟨x, y, rfl, h, h'⟩, Rvs_nil.2 rfl⟩, by simp [Value.cells, Value.oneCell']⟩)
      | (obtain ⟨x, rfl, h⟩ := h; simp [Value.cells, Rvs, Rv, Value.oneCell', h])
      | (obtain ⟨x, rfl, rfl, h⟩ := h; simp [Value.cells, Rvs, Rv, Value.oneCell', h])
end
end Go.Ev
