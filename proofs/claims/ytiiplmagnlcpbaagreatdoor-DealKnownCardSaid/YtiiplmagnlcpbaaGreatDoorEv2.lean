/- A verified evaluator of the model's code, part 2 of 7: lists, tries, what abstract values and heaps stand for, loads, integers. -/
import Derived.Test.YtiiplmagnlcpbaaGreatDoorEv1
import Derived.Deep.MidRow
import Derived.Deep.AppendSrc
import Derived.Below
import Derived.Calls
import Derived.Laws.Entries
import Derived.Laws.Strings
import Derived.Lib.Split
namespace Go.Ev

/-! ## The basic functions, as equations -/
theorem bsel_true {α : Sort _} (a b : α) : bsel true a b = a := rfl
theorem bsel_false {α : Sort _} (a b : α) : bsel false a b = b := rfl
theorem bsel_eq {α : Sort _} (c : Bool) (a b : α) : bsel c a b = if c = true then a else b := by cases c <;> simp [bsel]
theorem osel_none {α β : Type} (f : α → Option β) : osel none f = none := rfl
theorem osel_some {α β : Type} (a : α) (f : α → Option β) : osel (some a) f = f a := rfl
theorem osel_eq_some {α β : Type} {x : Option α} {f : α → Option β} {b : β} (h : osel x f = some b) : ∃ a, x = some a ∧ f a = some b := by
  cases x with
  | none => simp [osel_none] at h
  | some a => exact ⟨a, rfl, h⟩
theorem bsel_some {α : Type} {c : Bool} {a : Option α} {r : α} (h : bsel c a none = some r) : c = true ∧ a = some r := by
  cases c
  · simp [bsel_false] at h
  · exact ⟨rfl, h⟩

namespace T
variable {α : Type}
theorem get_e (k : Nat) : (T.e : T α).get k = none := rfl
theorem get_n (l r : T α) (v : Option α) (k : Nat) : (T.n l v r).get k = if k = 0 then v else if k % 2 = 1 then l.get (k / 2) else r.get (k / 2 - 1) := by
  show bsel (Nat.beq k 0) v (bsel (Nat.beq (Nat.mod k 2) 1) (l.get (Nat.div k 2)) (r.get (Nat.sub (Nat.div k 2) 1))) = _
  rw [bsel_eq, bsel_eq]
  simp only [Nat.beq_eq]
  rfl
theorem set_e (k : Nat) (x : Option α) : (T.e : T α).set k x = single (k + 1) k x := rfl
theorem set_n (l r : T α) (v : Option α) (k : Nat) (x : Option α) :
    (T.n l v r).set k x = if k = 0 then .n l x r else if k % 2 = 1 then .n (l.set (k / 2) x) v r else .n l v (r.set (k / 2 - 1) x) := by
  show bsel (Nat.beq k 0) (T.n l x r) (bsel (Nat.beq (Nat.mod k 2) 1) (T.n (l.set (Nat.div k 2) x) v r) (T.n l v (r.set (Nat.sub (Nat.div k 2) 1) x))) = _
  rw [bsel_eq, bsel_eq]
  simp only [Nat.beq_eq]
  rfl
theorem single_succ (f k : Nat) (x : Option α) : single (f + 1) k x = if k = 0 then .n .e x .e else if k % 2 = 1 then .n (single f (k / 2) x) none .e else .n .e none (single f (k / 2 - 1) x) := by
  show bsel (Nat.beq k 0) (T.n .e x .e) (bsel (Nat.beq (Nat.mod k 2) 1) (T.n (single f (Nat.div k 2) x) none .e) (T.n .e none (single f (Nat.sub (Nat.div k 2) 1) x))) = _
  rw [bsel_eq, bsel_eq]
  simp only [Nat.beq_eq]
  rfl
theorem get_single (x : Option α) : ∀ (f k j : Nat), k < f → (single f k x).get j = if j = k then x else none
  | 0, k, j, h => by omega
  | f + 1, k, j, h => by
    rw [single_succ]
    by_cases k0 : k = 0
    · subst k0
      simp only [if_true]
      rw [get_n]
      by_cases j0 : j = 0 <;> simp [j0, get_e]
    · rw [if_neg k0]
      by_cases k1 : k % 2 = 1
      · rw [if_pos k1, get_n]
        by_cases j0 : j = 0
        · subst j0; rw [if_pos rfl, if_neg (by omega)]
        · rw [if_neg j0]
          by_cases j1 : j % 2 = 1
          · rw [if_pos j1, get_single x f (k / 2) (j / 2) (by omega)]
            by_cases e : j = k
            · subst e; simp
            · rw [if_neg e, if_neg (by omega)]
          · rw [if_neg j1, get_e, if_neg (by omega)]
      · rw [if_neg k1, get_n]
        by_cases j0 : j = 0
        · subst j0; rw [if_pos rfl, if_neg (by omega)]
        · rw [if_neg j0]
          by_cases j1 : j % 2 = 1
          · rw [if_pos j1, get_e, if_neg (by omega)]
          · rw [if_neg j1, get_single x f (k / 2 - 1) (j / 2 - 1) (by omega)]
            by_cases e : j = k
            · subst e; simp
            · rw [if_neg e, if_neg (by omega)]
theorem get_set (x : Option α) : ∀ (t : T α) (k j : Nat), (t.set k x).get j = if j = k then x else t.get j
  | .e, k, j => by
    rw [set_e, get_single x (k + 1) k j (by omega), get_e]
  | .n l v r, k, j => by
    rw [set_n]
    by_cases k0 : k = 0
    · subst k0
      simp only [if_true]
      rw [get_n, get_n]
      by_cases j0 : j = 0 <;> simp [j0]
    · rw [if_neg k0]
      by_cases k1 : k % 2 = 1
      · rw [if_pos k1, get_n, get_n]
        by_cases j0 : j = 0
        · subst j0; simp only [if_true]; rw [if_neg (by omega)]
        · rw [if_neg j0, if_neg j0]
          by_cases j1 : j % 2 = 1
          · rw [if_pos j1, if_pos j1, get_set x l (k / 2) (j / 2)]
            by_cases e : j = k
            · subst e; simp
            · rw [if_neg e, if_neg (by omega)]
          · rw [if_neg j1, if_neg j1, if_neg (by omega)]
      · rw [if_neg k1, get_n, get_n]
        by_cases j0 : j = 0
        · subst j0; simp only [if_true]; rw [if_neg (by omega)]
        · rw [if_neg j0, if_neg j0]
          by_cases j1 : j % 2 = 1
          · rw [if_pos j1, if_pos j1, if_neg (by omega)]
          · rw [if_neg j1, if_neg j1, get_set x r (k / 2 - 1) (j / 2 - 1)]
            by_cases e : j = k
            · subst e; simp
            · rw [if_neg e, if_neg (by omega)]
end T

/-! ## Lists -/
section
variable {α : Type}
theorem nth_eq : ∀ (l : List α) (k : Nat), nth l k = l[k]?
  | [], k => by simp [nth]
  | x :: xs, k => by
    show bsel (Nat.beq k 0) (some x) (nth xs (Nat.sub k 1)) = _
    rw [bsel_eq]
    simp only [Nat.beq_eq]
    cases k with
    | zero => simp
    | succ k => rw [if_neg (by omega)]; show nth xs (k + 1 - 1) = _; rw [Nat.add_sub_cancel, nth_eq xs k]; simp
theorem lenL_eq : ∀ (l : List α), lenL l = l.length
  | [] => rfl
  | _ :: xs => by show Nat.succ (lenL xs) = _; rw [lenL_eq xs]; rfl
theorem appL_eq : ∀ (l m : List α), appL l m = l ++ m
  | [], m => rfl
  | x :: xs, m => by show x :: appL xs m = _; rw [appL_eq xs m]; rfl
theorem dropL_eq : ∀ (l : List α) (k : Nat), dropL l k = l.drop k
  | [], k => by simp [dropL]
  | x :: xs, k => by
    show bsel (Nat.beq k 0) (x :: xs) (dropL xs (Nat.sub k 1)) = _
    rw [bsel_eq]
    simp only [Nat.beq_eq]
    cases k with
    | zero => simp
    | succ k => rw [if_neg (by omega)]; show dropL xs (k + 1 - 1) = _; rw [Nat.add_sub_cancel, dropL_eq xs k]; simp
theorem takeL_eq : ∀ (l : List α) (n : Nat), takeL l n = if n ≤ l.length then some (l.take n) else none
  | [], n => by
    show bsel (Nat.beq n 0) (some []) none = _
    rw [bsel_eq]
    simp only [Nat.beq_eq]
    by_cases h : n = 0 <;> simp [h]
  | x :: xs, n => by
    show bsel (Nat.beq n 0) (some []) (osel (takeL xs (Nat.sub n 1)) fun r => some (x :: r)) = _
    rw [bsel_eq]
    simp only [Nat.beq_eq]
    cases n with
    | zero => simp
    | succ n =>
      rw [if_neg (by omega)]
      show osel (takeL xs (n + 1 - 1)) _ = _
      rw [Nat.add_sub_cancel, takeL_eq xs n]
      by_cases h : n ≤ xs.length
      · rw [if_pos h, osel_some]; simp [h]
      · rw [if_neg h, osel_none]; simp [h]
theorem cut_some {l r : List α} {i n : Nat} (h : cut l i n = some r) : r = (l.drop i).take n ∧ r.length = n := by
  unfold cut at h
  rw [dropL_eq, takeL_eq] at h
  split at h
  · rename_i hle
    cases h
    exact ⟨rfl, by rw [List.length_take]; omega⟩
  · cases h
theorem overL_eq : ∀ (vs l : List α), overL vs l = if vs.length ≤ l.length then some (vs ++ l.drop vs.length) else none
  | [], l => by simp [overL]
  | v :: vs, [] => by
    show none = _
    simp
  | v :: vs, x :: xs => by
    show osel (overL vs xs) (fun r => some (v :: r)) = _
    rw [overL_eq vs xs]
    by_cases h : vs.length ≤ xs.length
    · rw [if_pos h, osel_some]; simp [h]
    · rw [if_neg h, osel_none]; simp [h]
theorem put_eq : ∀ (l : List α) (k : Nat) (vs : List α), put l k vs = if k + vs.length ≤ l.length then some (l.take k ++ vs ++ l.drop (k + vs.length)) else none
  | [], k, vs => by
    show bsel (Nat.beq k 0) (overL vs []) none = _
    rw [bsel_eq, overL_eq]
    simp only [Nat.beq_eq]
    cases k with
    | zero => simp
    | succ k => simp
  | x :: xs, k, vs => by
    show bsel (Nat.beq k 0) (overL vs (x :: xs)) (osel (put xs (Nat.sub k 1) vs) fun r => some (x :: r)) = _
    rw [bsel_eq, overL_eq]
    simp only [Nat.beq_eq]
    cases k with
    | zero => simp
    | succ k =>
      rw [if_neg (by omega)]
      show osel (put xs (k + 1 - 1) vs) _ = _
      rw [Nat.add_sub_cancel, put_eq xs k vs]
      by_cases h : k + vs.length ≤ xs.length
      · rw [if_pos h, osel_some, if_pos (by simp; omega)]
        simp [Nat.succ_add]
      · rw [if_neg h, osel_none, if_neg (by simp; omega)]
theorem put_some {l r vs : List α} {k : Nat} (h : put l k vs = some r) : k + vs.length ≤ l.length ∧ r = l.take k ++ vs ++ l.drop (k + vs.length) := by
  rw [put_eq] at h
  split at h
  · cases h; exact ⟨‹_›, rfl⟩
  · cases h
theorem put_get {l r vs : List α} {k : Nat} (h : put l k vs = some r) (j : Nat) : r[j]? = if j < k then l[j]? else if j < k + vs.length then vs[j - k]? else l[j]? := by
  obtain ⟨hle, rfl⟩ := put_some h
  by_cases h1 : j < k
  · rw [if_pos h1, List.append_assoc, List.getElem?_append_left (by simp; omega), List.getElem?_take_of_lt h1]
  · rw [if_neg h1]
    by_cases h2 : j < k + vs.length
    · rw [if_pos h2, List.append_assoc, List.getElem?_append_right (by simp; omega), List.length_take, Nat.min_eq_left (by omega), List.getElem?_append_left (by omega)]
    · rw [if_neg h2, List.getElem?_append_right (by simp; omega)]
      simp only [List.length_append, List.length_take, List.getElem?_drop]
      congr 1
      omega
theorem put_length {l r vs : List α} {k : Nat} (h : put l k vs = some r) : r.length = l.length := by
  obtain ⟨hle, rfl⟩ := put_some h
  simp
  omega
theorem repeatL_succ (z : List α) (n : Nat) : repeatL z (n + 1) = z ++ repeatL z n := appL_eq z (repeatL z n)
theorem repeatL_zero (z : List α) : repeatL z 0 = [] := rfl
theorem repeatL_length (z : List α) : ∀ n, (repeatL z n).length = n * z.length
  | 0 => by simp [repeatL_zero]
  | n + 1 => by rw [repeatL_succ, List.length_append, repeatL_length z n, Nat.succ_mul]; omega
end
end Go.Ev

namespace Go.Ev

/-! ## What an abstract value stands for -/
/-- where an abstract block lies: the block, the place in it, and how many elements more its room is -/
structure Loc where
  r : Nat
  d : Nat
  e : Nat
abbrev Env := Nat → Option Loc

def mkStr (s : List Nat) : ByteArray := ⟨(s.map UInt8.ofNat).toArray⟩
def Bytes (s : List Nat) : Prop := ∀ x ∈ s, x < 256

variable (P : Program)
mutual
def Rv (σ : Env) : AV → Value → Prop
  | .bool b, V => V = .bool b
  | .int k n, V => V = .int k n
  | .str s, V => V = .string (mkStr s) ∧ Bytes s
  | .ptr b off, V => ∃ L, σ b = some L ∧ V = .pointer (some ⟨L.r, L.d + off, none⟩)
  | .nilp, V => V = .pointer none
  | .sl b off len cap o, V => ∃ L, σ b = some L ∧ V = .slice (some ⟨L.r, L.d + off, none⟩) len (if o = true then cap + L.e else cap)
  | .nilsl, V => V = .slice none 0 0
  | .emp, V => ∃ a c, V = .slice (some a) 0 c
  | .map b, V => ∃ L, σ b = some L ∧ V = .map (some L.r)
  | .nilmap, V => V = .map none
  | .fn f a b, V => ∃ A B, V = .func (.func f) ⟨A⟩ ⟨B⟩ ∧ Rvs σ a A ∧ Rvs σ b B
  | .nilfn, V => V = .nilFunc
  | .yld b, V => ∃ L, σ b = some L ∧ V = .func (.yield L.r) #[] #[]
  | .iface t v, V => ∃ W, V = .iface t W ∧ Rv σ v W
  | .niliface, V => V = .nilIface
  | .mth n tbl v, V => ∃ W, V = .func (.method n) #[W] #[] ∧ tbl = methodTable P n P.types.toList 0 ∧ Rv σ v W
  | .agg cs, V => ∃ C, V = .agg ⟨C⟩ ∧ Rvs σ cs C ∧ ∀ v ∈ C, v.oneCell' = true
  | .tup cs, V => ∃ C, V = .tuple ⟨C⟩ ∧ Rvs σ cs C
def Rvs (σ : Env) : List AV → List Value → Prop
  | [], Vs => Vs = []
  | a :: as, Vs => ∃ V Ws, Vs = V :: Ws ∧ Rv σ a V ∧ Rvs σ as Ws
end

section
variable {P}
variable {σ : Env}
theorem Rvs_nil {Vs : List Value} : Rvs P σ [] Vs ↔ Vs = [] := by simp [Rvs]
theorem Rvs_cons {a : AV} {as : List AV} {Vs : List Value} : Rvs P σ (a :: as) Vs ↔ ∃ V Ws, Vs = V :: Ws ∧ Rv P σ a V ∧ Rvs P σ as Ws := by simp [Rvs]
theorem Rvs_cons_cons {a : AV} {as : List AV} {V : Value} {Ws : List Value} : Rvs P σ (a :: as) (V :: Ws) ↔ Rv P σ a V ∧ Rvs P σ as Ws := by
  rw [Rvs_cons]
  exact ⟨fun ⟨_, _, h, a, b⟩ => by cases h; exact ⟨a, b⟩, fun ⟨a, b⟩ => ⟨_, _, rfl, a, b⟩⟩
theorem Rvs.length : ∀ {as : List AV} {Vs : List Value}, Rvs P σ as Vs → Vs.length = as.length
  | [], Vs, h => by rw [Rvs_nil] at h; subst h; rfl
  | a :: as, Vs, h => by
    rw [Rvs_cons] at h
    obtain ⟨V, Ws, rfl, _, h⟩ := h
    simp [Rvs.length h]
theorem Rvs.get : ∀ {as : List AV} {Vs : List Value}, Rvs P σ as Vs → ∀ {j : Nat} {a : AV}, as[j]? = some a → ∃ V, Vs[j]? = some V ∧ Rv P σ a V
  | [], Vs, h, j, a, ha => by simp at ha
  | x :: as, Vs, h, j, a, ha => by
    rw [Rvs_cons] at h
    obtain ⟨V, Ws, rfl, hv, h⟩ := h
    cases j with
    | zero => simp at ha; subst ha; exact ⟨V, by simp, hv⟩
    | succ j =>
      simp at ha
      obtain ⟨W, hW, hr⟩ := Rvs.get h ha
      exact ⟨W, by simpa using hW, hr⟩
theorem Rvs.get' : ∀ {as : List AV} {Vs : List Value}, Rvs P σ as Vs → ∀ {j : Nat} {V : Value}, Vs[j]? = some V → ∃ a, as[j]? = some a ∧ Rv P σ a V
  | [], Vs, h, j, V, ha => by rw [Rvs_nil] at h; subst h; simp at ha
  | x :: as, Vs, h, j, V, ha => by
    rw [Rvs_cons] at h
    obtain ⟨W, Ws, rfl, hv, h⟩ := h
    cases j with
    | zero => simp at ha; subst ha; exact ⟨x, by simp, hv⟩
    | succ j =>
      simp at ha
      obtain ⟨b, hb, hr⟩ := Rvs.get' h ha
      exact ⟨b, by simpa using hb, hr⟩
theorem Rvs.append : ∀ {as bs : List AV} {Vs Ws : List Value}, Rvs P σ as Vs → Rvs P σ bs Ws → Rvs P σ (as ++ bs) (Vs ++ Ws)
  | [], bs, Vs, Ws, h, h' => by rw [Rvs_nil] at h; subst h; simpa using h'
  | a :: as, bs, Vs, Ws, h, h' => by
    rw [Rvs_cons] at h
    obtain ⟨V, Us, rfl, hv, h⟩ := h
    exact Rvs_cons.2 ⟨V, Us ++ Ws, rfl, hv, Rvs.append h h'⟩
theorem Rvs.take : ∀ {as : List AV} {Vs : List Value} (n : Nat), Rvs P σ as Vs → Rvs P σ (as.take n) (Vs.take n)
  | [], Vs, n, h => by rw [Rvs_nil] at h; subst h; simp [Rvs_nil]
  | a :: as, Vs, n, h => by
    rw [Rvs_cons] at h
    obtain ⟨V, Us, rfl, hv, h⟩ := h
    cases n with
    | zero => simp [Rvs_nil]
    | succ n => exact Rvs_cons.2 ⟨V, Us.take n, rfl, hv, Rvs.take n h⟩
theorem Rvs.drop : ∀ {as : List AV} {Vs : List Value} (n : Nat), Rvs P σ as Vs → Rvs P σ (as.drop n) (Vs.drop n)
  | [], Vs, n, h => by rw [Rvs_nil] at h; subst h; simp [Rvs_nil]
  | a :: as, Vs, n, h => by
    cases n with
    | zero => simpa using h
    | succ n =>
      rw [Rvs_cons] at h
      obtain ⟨V, Us, rfl, hv, h⟩ := h
      simpa using Rvs.drop n h
theorem Rvs.cut {as r : List AV} {Vs : List Value} {i n : Nat} (h : Rvs P σ as Vs) (hc : cut as i n = some r) :
    Rvs P σ r ((Vs.drop i).take n) ∧ ((Vs.drop i).take n).length = n := by
  obtain ⟨rfl, hl⟩ := cut_some hc
  have := (h.drop i).take n
  exact ⟨this, by rw [this.length, hl]⟩
theorem Rvs.put {as r vs : List AV} {Vs Ws : List Value} {k : Nat} (h : Rvs P σ as Vs) (hv : Rvs P σ vs Ws) (hp : put as k vs = some r) :
    Rvs P σ r (Vs.take k ++ Ws ++ Vs.drop (k + Ws.length)) := by
  obtain ⟨_, rfl⟩ := put_some hp
  rw [hv.length]
  exact ((h.take k).append hv).append (h.drop _)

/-! ### the environment grows -/
theorem Rv_mono_both {σ σ' : Env} (hs : ∀ b L, σ b = some L → σ' b = some L) : (∀ v V, Rv P σ v V → Rv P σ' v V) ∧ (∀ vs Vs, Rvs P σ vs Vs → Rvs P σ' vs Vs) := by
  have key : ∀ n : Nat, (∀ v V, SizeOf.sizeOf v < n → Rv P σ v V → Rv P σ' v V) ∧ (∀ vs Vs, SizeOf.sizeOf vs < n → Rvs P σ vs Vs → Rvs P σ' vs Vs) := by
    intro n
    induction n with
    | zero => exact ⟨fun v V h => absurd h (Nat.not_lt_zero _), fun v V h => absurd h (Nat.not_lt_zero _)⟩
    | succ n ih =>
      refine ⟨fun v V hn h => ?_, fun vs Vs hn h => ?_⟩
      · cases v <;> simp only [Rv] at h ⊢ <;> (try exact h)
        · obtain ⟨L, h1, h2⟩ := h; exact ⟨L, hs _ _ h1, h2⟩
        · obtain ⟨L, h1, h2⟩ := h; exact ⟨L, hs _ _ h1, h2⟩
        · obtain ⟨L, h1, h2⟩ := h; exact ⟨L, hs _ _ h1, h2⟩
        · obtain ⟨A, B, h1, h2, h3⟩ := h
          exact ⟨A, B, h1, ih.2 _ _ (by simp at hn; omega) h2, ih.2 _ _ (by simp at hn; omega) h3⟩
        · obtain ⟨L, h1, h2⟩ := h; exact ⟨L, hs _ _ h1, h2⟩
        · obtain ⟨W, h1, h2⟩ := h; exact ⟨W, h1, ih.1 _ _ (by simp at hn; omega) h2⟩
        · obtain ⟨W, h1, h2, h3⟩ := h; exact ⟨W, h1, h2, ih.1 _ _ (by simp at hn; omega) h3⟩
        · obtain ⟨C, h1, h2, h3⟩ := h; exact ⟨C, h1, ih.2 _ _ (by simp at hn; omega) h2, h3⟩
        · obtain ⟨C, h1, h2⟩ := h; exact ⟨C, h1, ih.2 _ _ (by simp at hn; omega) h2⟩
      · cases vs with
        | nil => simpa [Rvs] using h
        | cons a as =>
          rw [Rvs_cons] at h ⊢
          obtain ⟨V, Ws, h1, h2, h3⟩ := h
          exact ⟨V, Ws, h1, ih.1 _ _ (by simp at hn; omega) h2, ih.2 _ _ (by simp at hn; omega) h3⟩
  exact ⟨fun v V h => (key (SizeOf.sizeOf v + 1)).1 v V (by omega) h, fun vs Vs h => (key (SizeOf.sizeOf vs + 1)).2 vs Vs (by omega) h⟩
theorem Rv.mono {σ σ' : Env} (hs : ∀ b L, σ b = some L → σ' b = some L) {v : AV} {V : Value} (h : Rv P σ v V) : Rv P σ' v V := (Rv_mono_both hs).1 v V h
theorem Rvs.mono {σ σ' : Env} (hs : ∀ b L, σ b = some L → σ' b = some L) {v : List AV} {V : List Value} (h : Rvs P σ v V) : Rvs P σ' v V := (Rv_mono_both hs).2 v V h

/-! ### constants -/
theorem flatV_one (v : Value) (h : flatV v = true) : v.oneCell' = true := by cases v <;> simp_all [flatV, Value.oneCell']
theorem mkStr_bytes (s : ByteArray) : mkStr (s.data.toList.map UInt8.toNat) = s ∧ Bytes (s.data.toList.map UInt8.toNat) := by
  constructor
  · obtain ⟨⟨l⟩⟩ := s
    simp [mkStr, Function.comp_def]
  · intro x hx
    obtain ⟨b, _, rfl⟩ := List.mem_map.1 hx
    exact b.toNat_lt
theorem ofValue_both (σ : Env) : ∀ n : Nat, (∀ V v, SizeOf.sizeOf V < n → ofValue V = some v → Rv P σ v V) ∧ (∀ Vs vs, SizeOf.sizeOf Vs < n → ofValues Vs = some vs → Rvs P σ vs Vs) := by
  intro n
  induction n with
  | zero => exact ⟨fun V v h => absurd h (Nat.not_lt_zero _), fun V v h => absurd h (Nat.not_lt_zero _)⟩
  | succ n ih =>
    refine ⟨fun V v hn h => ?_, fun Vs vs hn h => ?_⟩
    · unfold ofValue at h
      split at h
      · cases h; simp [Rv]
      · cases h; simp [Rv]
      · cases h
        simp only [Rv]
        exact ⟨by rw [(mkStr_bytes _).1], (mkStr_bytes _).2⟩
      · cases h; simp [Rv]
      · cases h; simp [Rv]
      · cases h; simp [Rv]
      · cases h; simp [Rv]
      · cases h; simp [Rv]
      · split at h
        · rename_i a' b' ha hb
          cases h
          simp only [Rv]
          exact ⟨_, _, rfl, ih.2 _ _ (by simp at hn; omega) ha, ih.2 _ _ (by simp at hn; omega) hb⟩
        · cases h
      · rename_i t w
        obtain ⟨x, hx, rfl⟩ := Option.map_eq_some_iff.1 h
        simp only [Rv]
        exact ⟨w, rfl, ih.1 _ _ (by simp at hn; omega) hx⟩
      · rename_i cs
        rw [Bool.cond_eq_ite] at h
        split at h
        · rename_i hall
          obtain ⟨x, hx, rfl⟩ := Option.map_eq_some_iff.1 h
          simp only [Rv]
          exact ⟨cs, rfl, ih.2 _ _ (by simp at hn; omega) hx, fun v hv => flatV_one v (List.all_eq_true.1 hall v hv)⟩
        · cases h
      · rename_i cs
        obtain ⟨x, hx, rfl⟩ := Option.map_eq_some_iff.1 h
        simp only [Rv]
        exact ⟨cs, rfl, ih.2 _ _ (by simp at hn; omega) hx⟩
      · cases h
    · cases Vs with
      | nil => simp [ofValues] at h; subst h; simp [Rvs]
      | cons V Vs =>
        unfold ofValues at h
        split at h
        · rename_i a as ha has
          cases h
          exact Rvs_cons.2 ⟨V, Vs, rfl, ih.1 _ _ (by simp at hn; omega) ha, ih.2 _ _ (by simp at hn; omega) has⟩
        · cases h
theorem Rv_ofValue {σ : Env} {V : Value} {v : AV} (h : ofValue V = some v) : Rv P σ v V := (ofValue_both σ (SizeOf.sizeOf V + 1)).1 V v (by omega) h

/-! ### the cells of a value -/
theorem Rv_cells {v : AV} {V : Value} {cs : List AV} (h : Rv P σ v V) (hc : v.cells = some cs) : Rvs P σ cs V.cells.toList ∧ (∀ u ∈ V.cells.toList, u.oneCell' = true) := by
  cases v <;> simp only [AV.cells, Option.some.injEq, reduceCtorEq] at hc <;> subst hc <;> simp only [Rv] at h
  case agg cs =>
    obtain ⟨C, rfl, h2, h3⟩ := h
    exact ⟨h2, h3⟩
  all_goals
    first
      | (subst h; simp [Value.cells, Rvs, Rv, Value.oneCell'])
      | (obtain ⟨rfl, h⟩ := h; simp [Value.cells, Rvs, Rv, Value.oneCell', h])
      | (obtain ⟨x, h, rfl⟩ := h; simp [Value.cells, Rvs, Rv, Value.oneCell', h])
      | (obtain ⟨x, y, rfl⟩ := h; simp [Value.cells, Rvs, Rv, Value.oneCell'])
      | (obtain ⟨x, y, rfl, h, h'⟩ := h; exact ⟨Rvs_cons.2 ⟨_, [], rfl, by simp only [Rv]; exact ⟨x, y, rfl, h, h'⟩, Rvs_nil.2 rfl⟩, by simp [Value.cells, Value.oneCell']⟩)
      | (obtain ⟨x, rfl, h⟩ := h; simp [Value.cells, Rvs, Rv, Value.oneCell', h])
      | (obtain ⟨x, rfl, rfl, h⟩ := h; simp [Value.cells, Rvs, Rv, Value.oneCell', h])
end
end Go.Ev

namespace Go.Ev
variable (P : Program)

/-! ## Frames, blocks, heaps -/
/-- the frame's slots -/
structure FrR (σ : Env) (F : Fr) (tmps : Array Value) : Prop where
  get : ∀ t, Rv P σ (tmpV t F) (tmps.getD t undef)

def lstOf : LSt → LoopState
  | .ready => .ready
  | .busy => .busy
  | .done => .done
  | .exhausted => .exhausted

def codeOf : Out → Option Code
  | .ret => some .ret
  | .exit id => some (.exit id)
  | .normal => none

def MapR (σ : Env) : List (AV × AV) → List MapEntry → Prop
  | [], es => es = []
  | (k, v) :: m, es => ∃ e es', es = e :: es' ∧ Rv P σ k e.key ∧ Rv P σ v e.val ∧ MapR σ m es'

def BlkRep (σ : Env) (w : World) (L : Loc) : AB → Prop
  | .cells cs o s => ∃ Cs, Rvs P σ cs Cs ∧ (∀ u ∈ Cs, u.oneCell' = true) ∧ w.rangeAt L.r L.d Cs ∧ w.there L.r L.d (Cs.length + if o = true then L.e * s else 0)
  | .ro cs => ∃ Cs, Rvs P σ cs Cs ∧ (∀ u ∈ Cs, u.oneCell' = true) ∧ w.rangeAt L.r L.d Cs
  | .map es => ∃ ms clock, w.heap[L.r]? = some (.map ms clock) ∧ MapR P σ es ms.toList
  | .loop st pend fr ps as bd => ∃ lp : Loop, w.heap[L.r]? = some (.loop lp) ∧ lp.state = lstOf st ∧ lp.pending = pend.bind codeOf ∧ FrR P σ fr lp.tmps ∧
      lp.params.toList = ps ∧ cCode P lp.tmps.size lp.assign = some as ∧ cCode P lp.tmps.size lp.body = some bd ∧ (∀ p ∈ ps, p < lp.tmps.size)
  | .dfd => w.heap[L.r]? = some (.deferred (some []))

def isOwn : AB → Prop
  | .ro _ => False
  | _ => True

structure Rep (σ : Env) (S : St) (w : World) : Prop where
  blk : ∀ b bl, S.h.get b = some bl → ∃ L, σ b = some L ∧ L.r < w.heap.size ∧ BlkRep P σ w L bl
  lt : ∀ b bl, S.h.get b = some bl → b < S.nx
  fresh : ∀ b, S.nx ≤ b → σ b = none
  glob : ∀ g, g < P.globals.size → σ g = some ⟨g, 0, 0⟩
  inj : ∀ b b' bl bl' L L', S.h.get b = some bl → S.h.get b' = some bl' → isOwn bl → b ≠ b' → σ b = some L → σ b' = some L' → L.r ≠ L'.r

/-- the blocks that may be written -/
def Own (σ : Env) (S : St) (r : Nat) : Prop := ∃ b bl L, S.h.get b = some bl ∧ isOwn bl ∧ σ b = some L ∧ L.r = r

structure Ext (σ : Env) (S : St) (w : World) (σ' : Env) (S' : St) (w' : World) : Prop where
  rep : Rep P σ' S' w'
  low : ∀ b, b < S.nx → σ' b = σ b
  nx : S.nx ≤ S'.nx
  keep : ∀ r, r < w.heap.size → ¬ Own σ S r → w'.heap[r]? = w.heap[r]?
  own : ∀ r, Own σ' S' r → Own σ S r ∨ w.heap.size ≤ r
  size : w.heap.size ≤ w'.heap.size
  os : w'.os = w.os
  tape : w'.tape = w.tape
  output : w'.output = w.output
  ro : ∀ b cs, S'.h.get b = some (.ro cs) → S.h.get b = some (.ro cs)

section
variable {P} {σ σ' : Env} {S S' : St} {w w' : World}

theorem Rep.below (h : Rep P σ S w) {b : Nat} {L : Loc} (hb : σ b = some L) : b < S.nx := by
  rcases Nat.lt_or_ge b S.nx with hl | hl
  · exact hl
  · rw [h.fresh b hl] at hb; cases hb

theorem Ext.mono (h : Ext P σ S w σ' S' w') (hr : Rep P σ S w) : ∀ b L, σ b = some L → σ' b = some L := fun b L hb => by
  rw [h.low b (hr.below hb)]; exact hb

theorem Ext.refl (h : Rep P σ S w) : Ext P σ S w σ S w :=
  ⟨h, fun _ _ => rfl, Nat.le_refl _, fun _ _ _ => rfl, fun _ ho => .inl ho, Nat.le_refl _, rfl, rfl, rfl, fun _ _ h => h⟩

theorem Ext.trans {σ'' : Env} {S'' : St} {w'' : World} (h : Ext P σ S w σ' S' w') (h' : Ext P σ' S' w' σ'' S'' w'') : Ext P σ S w σ'' S'' w'' where
  rep := h'.rep
  low := fun b hb => (h'.low b (Nat.lt_of_lt_of_le hb h.nx)).trans (h.low b hb)
  nx := Nat.le_trans h.nx h'.nx
  keep := fun r hr ho => by
    have h1 := h.keep r hr ho
    rw [h'.keep r (Nat.lt_of_lt_of_le hr h.size) (fun ho' => by rcases h.own r ho' with h2 | h2; exact ho h2; omega)]
    exact h1
  own := fun r ho => by
    rcases h'.own r ho with h1 | h1
    · exact h.own r h1
    · exact .inr (Nat.le_trans h.size h1)
  size := Nat.le_trans h.size h'.size
  os := h'.os.trans h.os
  tape := h'.tape.trans h.tape
  output := h'.output.trans h.output
  ro := fun b cs hb => h.ro b cs (h'.ro b cs hb)

theorem cell_of_heap {r : Nat} (h : w'.heap[r]? = w.heap[r]?) (o : Nat) : w'.cell? ⟨r, o, none⟩ = w.cell? ⟨r, o, none⟩ := by
  simp only [World.cell?, h]
theorem frozen_of_heap {r : Nat} (h : w'.heap[r]? = w.heap[r]?) (o : Nat) : w'.frozen? ⟨r, o, none⟩ = w.frozen? ⟨r, o, none⟩ := by
  simp only [World.frozen?, h]

theorem FrR.mono {F : Fr} {tmps : Array Value} (hs : ∀ b L, σ b = some L → σ' b = some L) (h : FrR P σ F tmps) : FrR P σ' F tmps := ⟨fun t => (h.get t).mono hs⟩
theorem MapR.mono (hs : ∀ b L, σ b = some L → σ' b = some L) : ∀ {m : List (AV × AV)} {es : List MapEntry}, MapR P σ m es → MapR P σ' m es
  | [], es, h => h
  | (k, v) :: m, es, h => by
    obtain ⟨e, es', h1, h2, h3, h4⟩ := h
    exact ⟨e, es', h1, h2.mono hs, h3.mono hs, h4.mono hs⟩

/-- what stands in a block depends on that block alone -/
theorem BlkRep.frame {L : Loc} {bl : AB} (hs : ∀ b L, σ b = some L → σ' b = some L) (hh : w'.heap[L.r]? = w.heap[L.r]?) (h : BlkRep P σ w L bl) : BlkRep P σ' w' L bl := by
  cases bl with
  | cells cs o s =>
    obtain ⟨Cs, h1, h2, h3, h4⟩ := h
    exact ⟨Cs, h1.mono hs, h2, fun j v hv => by rw [cell_of_heap hh]; exact h3 j v hv, fun j hj => by rw [cell_of_heap hh, frozen_of_heap hh]; exact h4 j hj⟩
  | ro cs =>
    obtain ⟨Cs, h1, h2, h3⟩ := h
    exact ⟨Cs, h1.mono hs, h2, fun j v hv => by rw [cell_of_heap hh]; exact h3 j v hv⟩
  | map es =>
    obtain ⟨ms, c, h1, h2⟩ := h
    exact ⟨ms, c, by rw [hh]; exact h1, h2.mono hs⟩
  | loop st pend fr ps as bd =>
    obtain ⟨lp, h1, h2, h3, h4, h5⟩ := h
    exact ⟨lp, by rw [hh]; exact h1, h2, h3, h4.mono hs, h5⟩
  | dfd => exact hh.trans h

/-- the heap stands: a draw -/
theorem Ext.heap (h : Rep P σ S w) (hh : w'.heap = w.heap) (ho : w'.os = w.os) (ht : w'.tape = w.tape) (hu : w'.output = w.output) : Ext P σ S w σ S w' where
  rep := ⟨fun b bl hb => by
    obtain ⟨L, h1, h2, h3⟩ := h.blk b bl hb
    exact ⟨L, h1, by rw [hh]; exact h2, h3.frame (fun _ _ x => x) (by rw [hh])⟩, h.lt, h.fresh, h.glob, h.inj⟩
  low := fun _ _ => rfl
  nx := Nat.le_refl _
  keep := fun r _ _ => by rw [hh]
  own := fun _ ho => .inl ho
  size := by rw [hh]; exact Nat.le_refl _
  os := ho
  tape := ht
  output := hu
  ro := fun _ _ hb => hb

/-- one name more -/
def upd (σ : Env) (b : Nat) (L : Loc) : Env := fun c => if c = b then some L else σ c
theorem upd_same (b : Nat) (L : Loc) : upd σ b L b = some L := by simp [upd]
theorem upd_other {b c : Nat} (L : Loc) (h : c ≠ b) : upd σ b L c = σ c := by simp [upd, h]
theorem upd_mono {b : Nat} {L : Loc} (hb : σ b = none) : ∀ c M, σ c = some M → upd σ b L c = some M := fun c M hc => by
  rw [upd_other L (fun e => by subst e; rw [hb] at hc; cases hc)]; exact hc

/-- a new block at the next name, in new memory -/
theorem Ext.alloc (h : Rep P σ S w) {ob : Obj} {bl : AB} {e : Nat} (hw : w'.heap = w.heap.push ob) (ho : w'.os = w.os) (ht : w'.tape = w.tape) (hu : w'.output = w.output)
    (hb : BlkRep P (upd σ S.nx ⟨w.heap.size, 0, e⟩) w' ⟨w.heap.size, 0, e⟩ bl) (hr : isOwn bl) :
    Ext P σ S w (upd σ S.nx ⟨w.heap.size, 0, e⟩) ⟨S.h.set S.nx (some bl), Nat.succ S.nx⟩ w' := by
  have hold : ∀ r, r < w.heap.size → w'.heap[r]? = w.heap[r]? := fun r hr => by rw [hw, Array.getElem?_push, if_neg (by omega)]
  have hsz : w'.heap.size = w.heap.size + 1 := by rw [hw]; simp
  have hf := h.fresh S.nx (Nat.le_refl _)
  refine ⟨⟨fun b bl' hb' => ?_, fun b bl' hb' => ?_, fun b hb' => ?_, fun g hg => upd_mono hf _ _ (h.glob g hg), ?_⟩, fun b hb' => upd_other _ (by omega), Nat.le_succ _, fun r hr _ => hold r hr, fun r hr => ?_, by omega, ho, ht, hu, fun b cs hb' => ?_⟩
  · rw [T.get_set] at hb'
    split at hb'
    · rename_i e; subst e; cases hb'
      exact ⟨_, upd_same _ _, by simp only; omega, hb⟩
    · rename_i hne
      obtain ⟨L, h1, h2, h3⟩ := h.blk b bl' hb'
      exact ⟨L, upd_mono hf _ _ h1, by omega, h3.frame (upd_mono hf) (hold _ h2)⟩
  · rw [T.get_set] at hb'
    split at hb'
    · rename_i e; subst e; exact Nat.lt_succ_self _
    · exact Nat.lt_succ_of_lt (h.lt b bl' hb')
  · have : b ≠ S.nx := by simp only at hb'; omega
    rw [upd_other _ this]
    exact h.fresh b (by simp only at hb'; omega)
  · intro b b' bl1 bl2 L L' hb1 hb2 ho1 hne hL hL'
    simp only at hb1 hb2
    rw [T.get_set] at hb1 hb2
    split at hb1
    · rename_i e; subst e
      rw [if_neg (Ne.symm hne)] at hb2
      rw [upd_same] at hL; cases hL
      rw [upd_other _ (Ne.symm hne)] at hL'
      obtain ⟨M, h1, h2, _⟩ := h.blk b' bl2 hb2
      rw [h1] at hL'; cases hL'
      simp only; omega
    · rename_i hne1
      rw [upd_other _ hne1] at hL
      obtain ⟨M, h1, h2, _⟩ := h.blk b bl1 hb1
      rw [h1] at hL; cases hL
      split at hb2
      · rename_i e; subst e
        rw [upd_same] at hL'; cases hL'
        simp only; omega
      · rename_i hne2
        rw [upd_other _ hne2] at hL'
        exact h.inj b b' bl1 bl2 _ _ hb1 hb2 ho1 hne h1 hL'
  · obtain ⟨b, bl', L, h1, h2, h3, rfl⟩ := hr
    simp only at h1
    rw [T.get_set] at h1
    split at h1
    · rename_i e; subst e; rw [upd_same] at h3; cases h3; exact .inr (Nat.le_refl _)
    · rename_i hne; rw [upd_other _ hne] at h3; exact .inl ⟨b, bl', L, h1, h2, h3, rfl⟩
  · simp only at hb'
    rw [T.get_set] at hb'
    split at hb'
    · cases hb'; exact hr.elim
    · exact hb'

/-- a block is written -/
theorem Ext.write (h : Rep P σ S w) {b : Nat} {bl bl' : AB} {L : Loc} (hb : S.h.get b = some bl) (hown : isOwn bl) (hown' : isOwn bl') (hL : σ b = some L)
    (hh : ∀ r, r ≠ L.r → w'.heap[r]? = w.heap[r]?) (hsz : w'.heap.size = w.heap.size) (ho : w'.os = w.os) (ht : w'.tape = w.tape) (hu : w'.output = w.output)
    (hr : BlkRep P σ w' L bl') : Ext P σ S w σ ⟨S.h.set b (some bl'), S.nx⟩ w' := by
  refine ⟨⟨fun c bl1 hc => ?_, fun c bl1 hc => ?_, h.fresh, h.glob, ?_⟩, fun _ _ => rfl, Nat.le_refl _, fun r _ hr' => hh r (fun e => hr' ⟨b, bl, L, hb, hown, hL, e.symm⟩), fun r hr' => ?_, by omega, ho, ht, hu, fun c cs hc => ?_⟩
  · simp only at hc
    rw [T.get_set] at hc
    obtain ⟨M, h1, h2, _⟩ := h.blk b bl hb
    rw [hL] at h1; cases h1
    split at hc
    · rename_i e; subst e; cases hc
      exact ⟨L, hL, by omega, hr⟩
    · rename_i hne
      obtain ⟨M, h1, h3, h4⟩ := h.blk c bl1 hc
      exact ⟨M, h1, by omega, h4.frame (fun _ _ x => x) (hh _ (Ne.symm (h.inj b c bl bl1 L M hb hc hown (Ne.symm hne) hL h1)))⟩
  · simp only at hc
    rw [T.get_set] at hc
    split at hc
    · rename_i e; subst e; exact h.lt c bl hb
    · exact h.lt c bl1 hc
  · intro c c' bl1 bl2 L1 L2 h1 h2 ho1 hne hL1 hL2
    simp only at h1 h2
    rw [T.get_set] at h1 h2
    split at h1
    · rename_i e; subst e
      rw [if_neg (Ne.symm hne)] at h2
      exact h.inj c c' bl bl2 _ _ hb h2 hown hne hL1 hL2
    · split at h2
      · rename_i e; subst e
        rw [hL] at hL2; cases hL2
        exact (h.inj c' c bl bl1 _ _ hb h1 hown (Ne.symm hne) hL hL1).symm
      · exact h.inj c c' bl1 bl2 _ _ h1 h2 ho1 hne hL1 hL2
  · obtain ⟨c, bl1, M, h1, h2, h3, rfl⟩ := hr'
    simp only at h1
    rw [T.get_set] at h1
    split at h1
    · rename_i e; subst e; exact .inl ⟨c, bl, M, hb, hown, h3, rfl⟩
    · exact .inl ⟨c, bl1, M, h1, h2, h3, rfl⟩
  · simp only at hc
    rw [T.get_set] at hc
    split at hc
    · cases hc; exact hown'.elim
    · exact hc

/-- a block is given up -/
theorem Ext.drop (h : Rep P σ S w) (b : Nat) : Ext P σ S w σ ⟨S.h.set b none, S.nx⟩ w := by
  have key : ∀ c bl, (S.h.set b none).get c = some bl → S.h.get c = some bl := fun c bl hc => by
    rw [T.get_set] at hc
    split at hc
    · cases hc
    · exact hc
  refine ⟨⟨fun c bl hc => h.blk c bl (key c bl hc), fun c bl hc => h.lt c bl (key c bl hc), h.fresh, h.glob, fun c c' bl1 bl2 L1 L2 h1 h2 => h.inj c c' bl1 bl2 L1 L2 (key _ _ h1) (key _ _ h2)⟩,
    fun _ _ => rfl, Nat.le_refl _, fun _ _ _ => rfl, fun r ⟨c, bl, L, h1, h2⟩ => .inl ⟨c, bl, L, key _ _ h1, h2⟩, Nat.le_refl _, rfl, rfl, rfl, fun c cs hc => key _ _ hc⟩

/-- a block of one's own gets another name: the old one is given up, the block is written -/
theorem Ext.rename (h : Rep P σ S w) {b : Nat} {bl bl' : AB} {L L' : Loc} (hb : S.h.get b = some bl) (hown : isOwn bl) (hown' : isOwn bl') (hL : σ b = some L) (hr' : L'.r = L.r)
    (hh : ∀ r, r ≠ L.r → w'.heap[r]? = w.heap[r]?) (hsz : w'.heap.size = w.heap.size) (ho : w'.os = w.os) (ht : w'.tape = w.tape) (hu : w'.output = w.output)
    (hr : BlkRep P (upd σ S.nx L') w' L' bl') : Ext P σ S w (upd σ S.nx L') ⟨(S.h.set b none).set S.nx (some bl'), Nat.succ S.nx⟩ w' := by
  have hf := h.fresh S.nx (Nat.le_refl _)
  have hlt := h.lt b bl hb
  obtain ⟨M, hM1, hM2, _⟩ := h.blk b bl hb
  rw [hL] at hM1; cases hM1
  have key : ∀ c bl1, ((S.h.set b none).set S.nx (some bl')).get c = some bl1 → (c = S.nx ∧ bl1 = bl') ∨ (c ≠ S.nx ∧ c ≠ b ∧ S.h.get c = some bl1) := fun c bl1 hc => by
    rw [T.get_set, T.get_set] at hc
    split at hc
    · cases hc; exact .inl ⟨‹_›, rfl⟩
    · split at hc
      · cases hc
      · exact .inr ⟨‹_›, ‹_›, hc⟩
  refine ⟨⟨fun c bl1 hc => ?_, fun c bl1 hc => ?_, fun c hc => ?_, fun g hg => upd_mono hf _ _ (h.glob g hg), ?_⟩, fun c hc => upd_other _ (by omega), Nat.le_succ _, fun r _ hr1 => hh r (fun e => hr1 ⟨b, bl, L, hb, hown, hL, e.symm⟩), fun r hr1 => ?_, by omega, ho, ht, hu, fun c cs hc => ?_⟩
  · rcases key c bl1 hc with ⟨rfl, rfl⟩ | ⟨h1, h2, h3⟩
    · exact ⟨L', upd_same _ _, by omega, hr⟩
    · obtain ⟨M, h4, h5, h6⟩ := h.blk c bl1 h3
      exact ⟨M, upd_mono hf _ _ h4, by omega, h6.frame (upd_mono hf) (hh _ (Ne.symm (h.inj b c bl bl1 L M hb h3 hown (Ne.symm h2) hL h4)))⟩
  · rcases key c bl1 hc with ⟨rfl, rfl⟩ | ⟨h1, h2, h3⟩
    · exact Nat.lt_succ_self _
    · exact Nat.lt_succ_of_lt (h.lt c bl1 h3)
  · have : c ≠ S.nx := by simp only at hc; omega
    rw [upd_other _ this]
    exact h.fresh c (by simp only at hc; omega)
  · intro c c' bl1 bl2 L1 L2 h1 h2 ho1 hne hL1 hL2
    rcases key c bl1 h1 with ⟨rfl, rfl⟩ | ⟨a1, a2, a3⟩ <;> rcases key c' bl2 h2 with ⟨rfl, rfl⟩ | ⟨b1, b2, b3⟩
    · exact absurd rfl hne
    · rw [upd_same] at hL1; cases hL1
      rw [upd_other _ b1] at hL2
      rw [hr']
      exact h.inj b c' bl bl2 _ _ hb b3 hown (Ne.symm b2) hL hL2
    · rw [upd_same] at hL2; cases hL2
      rw [upd_other _ a1] at hL1
      rw [hr']
      exact (h.inj b c bl bl1 _ _ hb a3 hown (Ne.symm a2) hL hL1).symm
    · rw [upd_other _ a1] at hL1
      rw [upd_other _ b1] at hL2
      exact h.inj c c' bl1 bl2 _ _ a3 b3 ho1 hne hL1 hL2
  · obtain ⟨c, bl1, M, h1, h2, h3, rfl⟩ := hr1
    rcases key c bl1 h1 with ⟨rfl, rfl⟩ | ⟨a1, a2, a3⟩
    · rw [upd_same] at h3; cases h3
      exact .inl ⟨b, bl, L, hb, hown, hL, hr'.symm⟩
    · rw [upd_other _ a1] at h3
      exact .inl ⟨c, bl1, M, a3, h2, h3, rfl⟩
  · rcases key c _ hc with ⟨rfl, h1⟩ | ⟨a1, a2, a3⟩
    · subst h1; exact hown'.elim
    · exact a3
end
end Go.Ev

namespace Go.Ev
variable {P : Program} {σ : Env} {S : St} {w : World}

/-! ## Operands -/
theorem opd_sound {F : Fr} {a : Act} (hF : FrR P σ F a.tmps) (hR : Rep P σ S w) {x : Operand} {X : Opd} (h : cOpd P x = some X) : Rv P σ (X.val F) (a.eval x) := by
  cases x with
  | tmp t => simp only [cOpd, Option.some.injEq] at h; subst h; exact hF.get t
  | const v =>
    simp only [cOpd, Option.map_eq_some_iff] at h
    obtain ⟨y, hy, rfl⟩ := h
    exact Rv_ofValue hy
  | global g =>
    simp only [cOpd, Bool.cond_eq_ite] at h
    split at h
    · rename_i hg
      cases h
      show Rv P σ (.ptr g 0) _
      simp only [Rv]
      have hlt : g < P.globals.size := Nat.le_of_ble_eq_true hg
      exact ⟨_, hR.glob g hlt, rfl⟩
    · cases h
  | func f =>
    simp only [cOpd, Option.some.injEq] at h; subst h
    show Rv P σ (.fn f [] []) _
    simp only [Rv]
    exact ⟨[], [], rfl, Rvs_nil.2 rfl, Rvs_nil.2 rfl⟩

theorem valsOf_nil (F : Fr) : valsOf [] F = [] := rfl
theorem valsOf_cons (x : Opd) (xs : List Opd) (F : Fr) : valsOf (x :: xs) F = x.val F :: valsOf xs F := rfl
theorem opds_sound {F : Fr} {a : Act} (hF : FrR P σ F a.tmps) (hR : Rep P σ S w) : ∀ {xs : List Operand} {Xs : List Opd}, cOpds P xs = some Xs → Rvs P σ (valsOf Xs F) (xs.map a.eval)
  | [], Xs, h => by simp only [cOpds, Option.some.injEq] at h; subst h; exact Rvs_nil.2 rfl
  | x :: xs, Xs, h => by
    simp only [cOpds] at h
    split at h
    · rename_i y ys hy hys
      cases h
      rw [valsOf_cons, List.map_cons]
      exact Rvs_cons.2 ⟨_, _, rfl, opd_sound hF hR hy, opds_sound hF hR hys⟩
    · cases h

/-! ## Types -/
theorem aggT_some {t : TypeId} {agg : Bool} {n : Nat} (h : aggT P t = some (agg, n)) : ∃ d i, P.underlying t = some d ∧ P.info? t = some i ∧ i.size = n ∧ d.isRow = agg := by
  unfold aggT at h
  split at h
  · rename_i i hu hi; cases h; exact ⟨_, i, hu, hi, rfl, rfl⟩
  · rename_i i hu hi; cases h; exact ⟨_, i, hu, hi, rfl, rfl⟩
  · rename_i d i hn1 hn2 hu hi
    cases h
    refine ⟨d, i, hu, hi, rfl, ?_⟩
    cases d <;> simp_all [TypeDesc.isRow]
  · cases h

/-! ## Reading the heap -/
theorem cellsAt_some {b : Nat} {cs : List AV} (hR : Rep P σ S w) (h : cellsAt S.h b = some cs) :
    ∃ L Cs, σ b = some L ∧ Rvs P σ cs Cs ∧ (∀ u ∈ Cs, u.oneCell' = true) ∧ w.rangeAt L.r L.d Cs := by
  obtain ⟨bl, h1, h2⟩ := osel_eq_some h
  obtain ⟨L, hL, _, hb⟩ := hR.blk b bl h1
  cases bl <;> simp only [cellsOfB, Option.some.injEq, reduceCtorEq] at h2
  · subst h2; obtain ⟨Cs, h3, h4, h5, _⟩ := hb; exact ⟨L, Cs, hL, h3, h4, h5⟩
  · subst h2; obtain ⟨Cs, h3, h4, h5⟩ := hb; exact ⟨L, Cs, hL, h3, h4, h5⟩

theorem range_cut {r d i n : Nat} {Cs : List Value} (h : w.rangeAt r d Cs) : w.rangeAt r (d + i) ((Cs.drop i).take n) := fun j v hv => by
  have hj : j < n := by
    rcases Nat.lt_or_ge j n with h1 | h1
    · exact h1
    · rw [List.getElem?_eq_none (by rw [List.length_take]; omega)] at hv; cases hv
  rw [List.getElem?_take_of_lt hj, List.getElem?_drop] at hv
  rw [Nat.add_assoc]
  exact h _ v hv

theorem loadN_some {b off n : Nat} {cs : List AV} (hR : Rep P σ S w) (h : loadN S.h b off n = some cs) :
    ∃ L Cs, σ b = some L ∧ Rvs P σ cs Cs ∧ Cs.length = n ∧ (∀ u ∈ Cs, u.oneCell' = true) ∧ w.rangeAt L.r (L.d + off) Cs := by
  obtain ⟨l, h1, h2⟩ := osel_eq_some h
  obtain ⟨L, Cs, hL, h3, h4, h5⟩ := cellsAt_some hR h1
  have := h3.cut h2
  exact ⟨L, _, hL, this.1, this.2, fun u hu => h4 u (List.mem_of_mem_drop (List.mem_of_mem_take hu)), range_cut h5⟩

theorem load1_some {b off : Nat} {v : AV} (hR : Rep P σ S w) (h : load1 S.h b off = some v) :
    ∃ L V, σ b = some L ∧ Rv P σ v V ∧ w.cell? ⟨L.r, L.d + off, none⟩ = some V := by
  obtain ⟨l, h1, h2⟩ := osel_eq_some h
  rw [nth_eq] at h2
  obtain ⟨L, Cs, hL, h3, _, h5⟩ := cellsAt_some hR h1
  obtain ⟨V, hV, hr⟩ := h3.get h2
  exact ⟨L, V, hL, hr, h5 _ _ hV⟩

theorem loadV_sound {t : TypeId} {agg : Bool} {n : Nat} (ht : aggT P t = some (agg, n)) (hR : Rep P σ S w) {b off : Nat} {v : AV} (hv : loadV agg n S.h b off = some v) :
    ∃ L V, σ b = some L ∧ (loadVar t ⟨L.r, L.d + off, none⟩).run P w = .ok V w ∧ Rv P σ v V := by
  obtain ⟨d, i, hu, hi, hn, hd⟩ := aggT_some ht
  unfold loadV at hv
  cases agg with
  | true =>
    rw [bsel_true] at hv
    obtain ⟨cs, h1, h2⟩ := osel_eq_some hv
    cases h2
    obtain ⟨L, Cs, hL, h3, h4, h5, h6⟩ := loadN_some hR h1
    refine ⟨L, _, hL, run_loadVar_mid w L.r (L.d + off) t Cs d h6 hu hd (by rw [hi]; simp [hn, h4]), ?_⟩
    simp only [Rv]
    exact ⟨Cs, rfl, h3, h5⟩
  | false =>
    rw [bsel_false] at hv
    obtain ⟨L, V, hL, h1, h2⟩ := load1_some hR hv
    refine ⟨L, V, hL, ?_, h1⟩
    have hna : (isAgg t).run P w = .ok false w := by
      simp only [isAgg, Sem.run_bind, run_underlying hu, Result.andThen_ok]
      cases d <;> simp_all [TypeDesc.isRow]
    simp [loadVar, hna, h2]

theorem qLd_sound {t : TypeId} {agg : Bool} {n : Nat} (ht : aggT P t = some (agg, n)) (hR : Rep P σ S w) {x : AV} {X : Value} (hx : Rv P σ x X) {v : AV} (hv : qLdV x agg n S.h = some v) :
    ∃ V, (Instr.loadAt t X).run P w = .ok V w ∧ Rv P σ v V := by
  cases x <;> simp only [qLdV, reduceCtorEq] at hv
  simp only [Rv] at hx
  obtain ⟨L, hL, rfl⟩ := hx
  obtain ⟨L', V, hL', h1, h2⟩ := loadV_sound ht hR hv
  rw [hL] at hL'; cases hL'
  exact ⟨V, by simp [Instr.loadAt, Instr.sureAddr, h1], h2⟩

/-! ## Integers -/
theorem wrap_id {k : IntKind} {n : Int} (h1 : k.min ≤ n) (h2 : n ≤ k.max) : k.wrap n = n := by
  cases k <;> simp only [IntKind.min, IntKind.max, IntKind.wrap, IntKind.signed, IntKind.bits] at * <;> simp at * <;> (try split) <;> omega
theorem nat_eq (k : IntKind) (n : Nat) : nat k n = k.wrap (Int.ofNat n) := by
  unfold nat
  rw [bsel_eq]
  split
  · rename_i h
    rw [Nat.ble_eq] at h
    rw [wrap_id]
    · cases k <;> simp [IntKind.min, IntKind.signed, IntKind.bits] <;> omega
    · cases k <;> simp only [maxN, IntKind.max, IntKind.signed, IntKind.bits] at * <;> simp <;> omega
  · rfl
theorem neg_eq (k : IntKind) (n : Nat) : neg k n = k.wrap (Int.negSucc n) := by
  unfold neg
  rw [bsel_eq]
  split
  · rename_i hs
    rw [bsel_eq]
    split
    · rename_i h
      rw [Nat.ble_eq] at h
      rw [wrap_id]
      · cases k <;> simp only [isSigned, maxN, Bool.false_eq_true] at * <;> simp only [IntKind.min, IntKind.signed, IntKind.bits] <;> simp <;> omega
      · cases k <;> simp only [isSigned, maxN, Bool.false_eq_true] at * <;> simp only [IntKind.max, IntKind.signed, IntKind.bits] <;> simp <;> omega
    · rfl
  · rfl
theorem wrapF_eq (k : IntKind) (n : Int) : wrapF k n = k.wrap n := by
  cases n with
  | ofNat m => exact nat_eq k m
  | negSucc m => exact neg_eq k m
theorem iSubNN_eq (k : IntKind) (a b : Nat) : iSubNN k a b = k.wrap ((a : Int) - b) := by
  unfold iSubNN
  rw [bsel_eq]
  split
  · rename_i h
    rw [Nat.ble_eq] at h
    rw [nat_eq]
    congr 1
    show ((a - b : Nat) : Int) = _
    omega
  · rename_i h
    rw [Nat.ble_eq] at h
    rw [neg_eq]
    congr 1
    show Int.negSucc (b - a - 1) = _
    omega
theorem iAddV_eq (k : IntKind) (x y : Int) : iAddV k x y = k.wrap (x + y) := by
  cases x with
  | ofNat a => cases y with
    | ofNat b => exact nat_eq k _
    | negSucc b => exact (iSubNN_eq k a (b + 1)).trans (by congr 1)
  | negSucc a => cases y with
    | ofNat b => exact (iSubNN_eq k b (a + 1)).trans (by congr 1)
    | negSucc b => exact (neg_eq k _).trans (by congr 1)
theorem iSubV_eq (k : IntKind) (x y : Int) : iSubV k x y = k.wrap (x - y) := by
  cases x with
  | ofNat a => cases y with
    | ofNat b => exact iSubNN_eq k a b
    | negSucc b => exact (nat_eq k _).trans (by congr 1)
  | negSucc a => cases y with
    | ofNat b => exact (neg_eq k _).trans (by congr 1; show Int.negSucc (a + b) = Int.negSucc a - (b : Int); omega)
    | negSucc b => exact (iSubNN_eq k b a).trans (by congr 1; omega)
theorem iMulV_eq (k : IntKind) (x y : Int) : iMulV k x y = k.wrap (x * y) := by
  cases x with
  | ofNat a => cases y with
    | ofNat b => exact nat_eq k _
    | negSucc b => exact wrapF_eq k _
  | negSucc a => exact wrapF_eq k _
theorem ieq_eq (x y : Int) : ieq x y = (x == y) := by
  cases x with
  | ofNat a => cases y with
    | ofNat b => show Nat.beq a b = _; rw [Bool.eq_iff_iff]; simp only [Nat.beq_eq, beq_iff_eq]; exact ⟨fun h => by rw [h], fun h => Int.ofNat.inj h⟩
    | negSucc b => show false = _; symm; simp
  | negSucc a => cases y with
    | ofNat b => show false = _; symm; simp
    | negSucc b => show Nat.beq a b = _; rw [Bool.eq_iff_iff]; simp [Nat.beq_eq]
theorem ile_eq (x y : Int) : ile x y = decide (x ≤ y) := by
  cases x with
  | ofNat a => cases y with
    | ofNat b => show Nat.ble a b = _; rw [Bool.eq_iff_iff]; simp [Nat.ble_eq]
    | negSucc b => show false = _; symm; simp; omega
  | negSucc a => cases y with
    | ofNat b => show true = _; symm; simp; omega
    | negSucc b => show Nat.ble b a = _; rw [Bool.eq_iff_iff]; simp [Nat.ble_eq]; omega
theorem keq_eq {x y : IntKind} (h : keq x y = true) : x = y := by
  cases x <;> cases y <;> first | rfl | (exact absurd h (by decide))
theorem keq_refl (x : IntKind) : keq x x = true := by cases x <;> rfl
theorem beq2_eq (x y : Bool) : beq2 x y = (x == y) := by cases x <;> cases y <;> rfl
theorem bnot_eq (b : Bool) : bsel b false true = !b := by cases b <;> rfl
end Go.Ev

namespace Go.Ev
variable {P : Program} {σ : Env} {S : St} {w : World}

/-! ## Two values with an operator -/
theorem isShift_spec (op : BinOp) : isShift op = true ↔ op = .shl ∨ op = .shr := by cases op <;> simp [isShift]

theorem shift_sound {op : BinOp} {k k' : IntKind} {a b : Int} {v : AV} (hs : isShift op = true) (h : shiftBin op k a b = some v) :
    ∃ V, (Op.shift op k a k' b).run P w = .ok V w ∧ Rv P σ v V := by
  cases b with
  | negSucc m => simp [shiftBin] at h
  | ofNat m =>
    simp only [shiftBin, shiftN] at h
    have hm : bsel (Nat.ble m k.bits) m k.bits = min m k.bits := by
      rw [bsel_eq]
      split
      · rename_i h1; rw [Nat.ble_eq] at h1; omega
      · rename_i h1; rw [Nat.ble_eq] at h1; omega
    rw [hm] at h
    have h0 : ¬ (Int.ofNat m < 0) := by simp
    rcases (isShift_spec op).1 hs with rfl | rfl
    · simp only [Option.some.injEq] at h
      subst h
      refine ⟨_, by simp only [Op.shift, if_neg h0]; rfl, ?_⟩
      simp only [Rv, iMulV_eq]
      congr 2
    · simp only [Option.some.injEq] at h
      subst h
      refine ⟨_, by simp only [Op.shift, if_neg h0]; rfl, ?_⟩
      simp only [Rv]
      congr 2

theorem iBits_some {f : Nat → Nat → Nat} {k : IntKind} {x y : Int} {v : AV} (h : iBits f k x y = some v) :
    ∃ a b, x = .ofNat a ∧ y = .ofNat b ∧ a ≤ maxN k ∧ b ≤ maxN k ∧ v = .int k (.ofNat (f a b)) := by
  unfold iBits at h
  split at h
  · rename_i a b
    obtain ⟨h1, h⟩ := bsel_some h
    obtain ⟨h2, h⟩ := bsel_some h
    cases h
    exact ⟨a, b, rfl, rfl, Nat.le_of_ble_eq_true h1, Nat.le_of_ble_eq_true h2, rfl⟩
  · cases h

theorem maxN_lt (k : IntKind) : maxN k < 2 ^ k.bits := by cases k <;> simp [maxN, IntKind.bits]
theorem wrap_nat {k : IntKind} {n : Nat} (h : n ≤ maxN k) : k.wrap (n : Int) = n := by
  apply wrap_id
  · cases k <;> simp [IntKind.min, IntKind.signed, IntKind.bits] <;> omega
  · cases k <;> simp only [maxN, IntKind.max, IntKind.signed, IntKind.bits] at * <;> simp <;> omega
theorem ofInt_nat {n a : Nat} (h : a < 2 ^ n) : (BitVec.ofInt n (Int.ofNat a)).toNat = a := by
  show (BitVec.ofInt n (a : Int)).toNat = a
  rw [BitVec.toNat_ofInt]
  have : ((a : Int) % ((2 ^ n : Nat) : Int)) = a := Int.emod_eq_of_lt (by omega) (by exact_mod_cast h)
  rw [this]
  rfl
theorem xor_le_maxN {k : IntKind} {a b : Nat} (ha : a ≤ maxN k) (hb : b ≤ maxN k) : a ^^^ b ≤ maxN k := by
  have key : ∀ m : Nat, maxN k = 2 ^ m - 1 → a ^^^ b ≤ maxN k := fun m hm => by
    have h1 : a < 2 ^ m := by have := Nat.two_pow_pos m; omega
    have h2 : b < 2 ^ m := by have := Nat.two_pow_pos m; omega
    have := Nat.xor_lt_two_pow h1 h2
    omega
  cases k
  · exact key 7 rfl
  · exact key 15 rfl
  · exact key 31 rfl
  · exact key 63 rfl
  · exact key 8 rfl
  · exact key 16 rfl
  · exact key 32 rfl
  · exact key 64 rfl
theorem or_le_maxN {k : IntKind} {a b : Nat} (ha : a ≤ maxN k) (hb : b ≤ maxN k) : a ||| b ≤ maxN k := by
  have key : ∀ m : Nat, maxN k = 2 ^ m - 1 → a ||| b ≤ maxN k := fun m hm => by
    have h1 : a < 2 ^ m := by have := Nat.two_pow_pos m; omega
    have h2 : b < 2 ^ m := by have := Nat.two_pow_pos m; omega
    have := Nat.or_lt_two_pow h1 h2
    omega
  cases k
  · exact key 7 rfl
  · exact key 15 rfl
  · exact key 31 rfl
  · exact key 63 rfl
  · exact key 8 rfl
  · exact key 16 rfl
  · exact key 32 rfl
  · exact key 64 rfl

theorem int_sound {op : BinOp} {t : TypeId} {k : IntKind} {a b : Int} {v : AV} (hs : isShift op = false) (h : intBin op k a b = some v) :
    ∃ V, (binOp op t (.int k a) (.int k b)).run P w = .ok V w ∧ Rv P σ v V := by
  cases op
  case add => cases h; exact ⟨_, by rw [binOp_add]; rfl, by simp only [Rv, iAddV_eq]⟩
  case sub => cases h; exact ⟨_, by rw [binOp_sub]; rfl, by simp only [Rv, iSubV_eq]⟩
  case mul => cases h; exact ⟨_, by rw [binOp_mul]; rfl, by simp only [Rv, iMulV_eq]⟩
  case quo =>
    have hb : binOp .quo t (.int k a) (.int k b) = Op.intDiv .quo k a b := binOp_quo ..
    have h' : iQuo k a b = some v := h
    unfold iQuo at h'
    rw [hb]
    split at h'
    · rename_i x y
      rw [bsel_eq] at h'
      split at h'
      · cases h'
      · rename_i h0
        rw [Nat.beq_eq] at h0
        cases h'
        have : ¬ (Int.ofNat y = 0) := by simpa using h0
        refine ⟨_, by simp only [Op.intDiv, if_neg this]; rfl, ?_⟩
        simp only [Rv, nat_eq]
        congr 2
    · rw [bsel_eq, ieq_eq] at h'
      split at h'
      · cases h'
      · rename_i h0
        cases h'
        have : ¬ (b = 0) := by simpa using h0
        exact ⟨_, by simp only [Op.intDiv, if_neg this]; rfl, by simp only [Rv, wrapF_eq]⟩
  case rem =>
    have hb : binOp .rem t (.int k a) (.int k b) = Op.intDiv .rem k a b := by simp [binOp]
    have h' : iRem k a b = some v := h
    unfold iRem at h'
    rw [hb]
    split at h'
    · rename_i x y
      rw [bsel_eq] at h'
      split at h'
      · cases h'
      · rename_i h0
        rw [Nat.beq_eq] at h0
        cases h'
        have : ¬ (Int.ofNat y = 0) := by simpa using h0
        refine ⟨_, by simp only [Op.intDiv, if_neg this]; rfl, ?_⟩
        simp only [Rv]
        congr 1
    · rw [bsel_eq, ieq_eq] at h'
      split at h'
      · cases h'
      · rename_i h0
        cases h'
        have : ¬ (b = 0) := by simpa using h0
        exact ⟨_, by simp only [Op.intDiv, if_neg this]; rfl, by simp only [Rv]⟩
  case and =>
    obtain ⟨x, y, rfl, rfl, h1, h2, rfl⟩ := iBits_some (h : iBits Nat.land k a b = some v)
    refine ⟨_, by simp only [binOp, ne_eq, not_true_eq_false, if_false, Op.intBits]; rfl, ?_⟩
    simp only [Rv]
    have hx := ofInt_nat (Nat.lt_of_le_of_lt h1 (maxN_lt k))
    have hy := ofInt_nat (Nat.lt_of_le_of_lt h2 (maxN_lt k))
    rw [BitVec.toNat_and, hx, hy]
    have hle : x &&& y ≤ maxN k := Nat.le_trans Nat.and_le_left h1
    rw [wrap_nat hle]
    rfl
  case or =>
    obtain ⟨x, y, rfl, rfl, h1, h2, rfl⟩ := iBits_some (h : iBits Nat.lor k a b = some v)
    refine ⟨_, by simp only [binOp, ne_eq, not_true_eq_false, if_false, Op.intBits]; rfl, ?_⟩
    simp only [Rv]
    have hx := ofInt_nat (Nat.lt_of_le_of_lt h1 (maxN_lt k))
    have hy := ofInt_nat (Nat.lt_of_le_of_lt h2 (maxN_lt k))
    rw [BitVec.toNat_or, hx, hy, wrap_nat (or_le_maxN h1 h2)]
    rfl
  case xor =>
    obtain ⟨x, y, rfl, rfl, h1, h2, rfl⟩ := iBits_some (h : iBits Nat.xor k a b = some v)
    refine ⟨_, by simp only [binOp, ne_eq, not_true_eq_false, if_false, Op.intBits]; rfl, ?_⟩
    simp only [Rv]
    have hx := ofInt_nat (Nat.lt_of_le_of_lt h1 (maxN_lt k))
    have hy := ofInt_nat (Nat.lt_of_le_of_lt h2 (maxN_lt k))
    rw [BitVec.toNat_xor, hx, hy, wrap_nat (xor_le_maxN h1 h2)]
    rfl
  case shl => simp [isShift] at hs
  case shr => simp [isShift] at hs
  case andNot => cases h
  case eql => cases h; exact ⟨_, by simp only [binOp, ne_eq, not_true_eq_false, if_false, Op.intCmp]; rfl, by simp only [Rv, ieq_eq]⟩
  case neq => cases h; exact ⟨_, by simp only [binOp, ne_eq, not_true_eq_false, if_false, Op.intCmp]; rfl, by simp only [Rv, ieq_eq, bnot_eq]; rfl⟩
  case lss =>
    cases h
    refine ⟨_, by simp only [binOp, ne_eq, not_true_eq_false, if_false, Op.intCmp]; rfl, ?_⟩
    simp only [Rv, ile_eq, bnot_eq]
    congr 1
    rw [Bool.eq_iff_iff]
    simp
  case leq => cases h; exact ⟨_, by simp only [binOp, ne_eq, not_true_eq_false, if_false, Op.intCmp]; rfl, by simp only [Rv, ile_eq]⟩
  case gtr =>
    cases h
    refine ⟨_, by simp only [binOp, ne_eq, not_true_eq_false, if_false, Op.intCmp]; rfl, ?_⟩
    simp only [Rv, ile_eq, bnot_eq]
    congr 1
    rw [Bool.eq_iff_iff]
    simp
  case geq => cases h; exact ⟨_, by simp only [binOp, ne_eq, not_true_eq_false, if_false, Op.intCmp]; rfl, by simp only [Rv, ile_eq]⟩

theorem ints_sound {op : BinOp} {t : TypeId} {k k' : IntKind} {a b : Int} {v : AV} (h : intsBin op k a k' b = some v) :
    ∃ V, (binOp op t (.int k a) (.int k' b)).run P w = .ok V w ∧ Rv P σ v V := by
  unfold intsBin at h
  cases hs : isShift op
  · rw [hs, bsel_false] at h
    obtain ⟨h1, h2⟩ := bsel_some h
    have := keq_eq h1
    subst this
    exact int_sound hs h2
  · rw [hs, bsel_true] at h
    obtain ⟨V, h1, h2⟩ := shift_sound (P := P) (σ := σ) (w := w) (k' := k') hs h
    refine ⟨V, ?_, h2⟩
    rcases (isShift_spec op).1 hs with rfl | rfl <;> exact h1

/-! ### strings -/
theorem byteNat {x : Nat} (h : x < 256) : (UInt8.ofNat x).toNat = x := by
  rw [UInt8.toNat_ofNat']
  exact Nat.mod_eq_of_lt h
theorem strEq_eq : ∀ {a b : List Nat}, Bytes a → Bytes b → (strEq a b = true ↔ mkStr a = mkStr b) := by
  have inj : ∀ {a b : List Nat}, Bytes a → Bytes b → mkStr a = mkStr b → a = b := fun {a b} ha hb h => by
    have h1 : a.map UInt8.ofNat = b.map UInt8.ofNat := by
      have := congrArg (fun s : ByteArray => s.data.toList) h
      simpa [mkStr] using this
    have h2 := congrArg (List.map UInt8.toNat) h1
    rw [List.map_map, List.map_map] at h2
    have e : ∀ l : List Nat, Bytes l → l.map (UInt8.toNat ∘ UInt8.ofNat) = l := fun l hl => by
      conv => rhs; rw [← List.map_id l]
      exact List.map_congr_left fun x hx => byteNat (hl x hx)
    rw [e a ha, e b hb] at h2
    exact h2
  have eqv : ∀ a b : List Nat, strEq a b = true ↔ a = b := by
    intro a
    induction a with
    | nil => intro b; cases b <;> simp [strEq]
    | cons x a ih =>
      intro b
      cases b with
      | nil => simp [strEq]
      | cons y b =>
        simp only [strEq, bsel_eq]
        split
        · rename_i h; rw [Nat.beq_eq] at h; subst h; simp [ih]
        · rename_i h; rw [Nat.beq_eq] at h; simp [h]
  intro a b ha hb
  rw [eqv]
  exact ⟨fun h => by rw [h], inj ha hb⟩
theorem mkStr_list (a : List Nat) : (mkStr a).toList = a.map UInt8.ofNat := by
  exact ByteArray.toList_mk _
theorem mkStr_size (a : List Nat) : (mkStr a).size = a.length := by simp [mkStr, ByteArray.size]
theorem mkStr_append (a b : List Nat) : mkStr (a ++ b) = mkStr a ++ mkStr b := by
  apply ByteArray.ext
  rw [ByteArray.data_append]
  simp [mkStr]
end Go.Ev
