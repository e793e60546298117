import Derived.Test.YtfmgnnfghdjpfaaEvB
import Derived.Deep.MidRow
import Derived.Deep.AppendSrc
import Derived.Below
namespace Go.Ev

/-! ## The basic functions, as equations -/
theorem bsel_true {α : Sort _} (a b : α) : bsel true a b = a := rfl
theorem bsel_false {α : Sort _} (a b : α) : bsel false a b = b := rfl
theorem bsel_eq {α : Sort _} (c : Bool) (a b : α) : bsel c a b = if c = true then a else b := by cases c <;> simp [bsel]
theorem osel_none {α β : Type} (f : α → Option β) : osel none f = none := rfl
theorem osel_some {α β : Type} (a : α) (f : α → Option β) : osel (some a) f = f a := rfl
theorem osel_eq_some {α β : Type} {x : Option α} {f : α → Option β} {b : β} (h : osel x f = some b) : ∃ a, x = some a ∧ f a = some b := by
  cases x with
  | none => simp [osel_none] at h
  | some a => exact ⟨a, rfl, h⟩
theorem bsel_some {α : Type} {c : Bool} {a : Option α} {r : α} (h : bsel c a none = some r) : c = true ∧ a = some r := by
  cases c
  · simp [bsel_false] at h
  · exact ⟨rfl, h⟩

namespace T
variable {α : Type}
theorem get_e (k : Nat) : (T.e : T α).get k = none := rfl
theorem get_n (l r : T α) (v : Option α) (k : Nat) : (T.n l v r).get k = if k = 0 then v else if k % 2 = 1 then l.get (k / 2) else r.get (k / 2 - 1) := by
  show bsel (Nat.beq k 0) v (bsel (Nat.beq (Nat.mod k 2) 1) (l.get (Nat.div k 2)) (r.get (Nat.sub (Nat.div k 2) 1))) = _
  rw [bsel_eq, bsel_eq]
  simp only [Nat.beq_eq]
  rfl
theorem set_e (k : Nat) (x : Option α) : (T.e : T α).set k x = single (k + 1) k x := rfl
theorem set_n (l r : T α) (v : Option α) (k : Nat) (x : Option α) :
    (T.n l v r).set k x = if k = 0 then .n l x r else if k % 2 = 1 then .n (l.set (k / 2) x) v r else .n l v (r.set (k / 2 - 1) x) := by
  show bsel (Nat.beq k 0) (T.n l x r) (bsel (Nat.beq (Nat.mod k 2) 1) (T.n (l.set (Nat.div k 2) x) v r) (T.n l v (r.set (Nat.sub (Nat.div k 2) 1) x))) = _
  rw [bsel_eq, bsel_eq]
  simp only [Nat.beq_eq]
  rfl
theorem single_succ (f k : Nat) (x : Option α) : single (f + 1) k x = if k = 0 then .n .e x .e else if k % 2 = 1 then .n (single f (k / 2) x) none .e else .n .e none (single f (k / 2 - 1) x) := by
  show bsel (Nat.beq k 0) (T.n .e x .e) (bsel (Nat.beq (Nat.mod k 2) 1) (T.n (single f (Nat.div k 2) x) none .e) (T.n .e none (single f (Nat.sub (Nat.div k 2) 1) x))) = _
  rw [bsel_eq, bsel_eq]
  simp only [Nat.beq_eq]
  rfl
theorem get_single (x : Option α) : ∀ (f k j : Nat), k < f → (single f k x).get j = if j = k then x else none
  | 0, k, j, h => by omega
  | f + 1, k, j, h => by
    rw [single_succ]
    by_cases k0 : k = 0
    · subst k0
      simp only [if_true]
      rw [get_n]
      by_cases j0 : j = 0 <;> simp [j0, get_e]
    · rw [if_neg k0]
      by_cases k1 : k % 2 = 1
      · rw [if_pos k1, get_n]
        by_cases j0 : j = 0
        · subst j0; rw [if_pos rfl, if_neg (by omega)]
        · rw [if_neg j0]
          by_cases j1 : j % 2 = 1
          · rw [if_pos j1, get_single x f (k / 2) (j / 2) (by omega)]
            by_cases e : j = k
            · subst e; simp
            · rw [if_neg e, if_neg (by omega)]
          · rw [if_neg j1, get_e, if_neg (by omega)]
      · rw [if_neg k1, get_n]
        by_cases j0 : j = 0
        · subst j0; rw [if_pos rfl, if_neg (by omega)]
        · rw [if_neg j0]
          by_cases j1 : j % 2 = 1
          · rw [if_pos j1, get_e, if_neg (by omega)]
          · rw [if_neg j1, get_single x f (k / 2 - 1) (j / 2 - 1) (by omega)]
            by_cases e : j = k
            · subst e; simp
            · rw [if_neg e, if_neg (by omega)]
theorem get_set (x : Option α) : ∀ (t : T α) (k j : Nat), (t.set k x).get j = if j = k then x else t.get j
  | .e, k, j => by
    rw [set_e, get_single x (k + 1) k j (by omega), get_e]
  | .n l v r, k, j => by
    rw [set_n]
    by_cases k0 : k = 0
    · subst k0
      simp only [if_true]
      rw [get_n, get_n]
      by_cases j0 : j = 0 <;> simp [j0]
    · rw [if_neg k0]
      by_cases k1 : k % 2 = 1
      · rw [if_pos k1, get_n, get_n]
        by_cases j0 : j = 0
        · subst j0; simp only [if_true]; rw [if_neg (by omega)]
        · rw [if_neg j0, if_neg j0]
          by_cases j1 : j % 2 = 1
          · rw [if_pos j1, if_pos j1, get_set x l (k / 2) (j / 2)]
            by_cases e : j = k
            · subst e; simp
            · rw [if_neg e, if_neg (by omega)]
          · rw [if_neg j1, if_neg j1, if_neg (by omega)]
      · rw [if_neg k1, get_n, get_n]
        by_cases j0 : j = 0
        · subst j0; simp only [if_true]; rw [if_neg (by omega)]
        · rw [if_neg j0, if_neg j0]
          by_cases j1 : j % 2 = 1
          · rw [if_pos j1, if_pos j1, if_neg (by omega)]
          · rw [if_neg j1, if_neg j1, get_set x r (k / 2 - 1) (j / 2 - 1)]
            by_cases e : j = k
            · subst e; simp
            · rw [if_neg e, if_neg (by omega)]
end T

/-! ## Lists -/
section
variable {α : Type}
theorem nth_eq : ∀ (l : List α) (k : Nat), nth l k = l[k]?
  | [], k => by simp [nth]
  | x :: xs, k => by
    show bsel (Nat.beq k 0) (some x) (nth xs (Nat.sub k 1)) = _
    rw [bsel_eq]
    simp only [Nat.beq_eq]
    cases k with
    | zero => simp
    | succ k => rw [if_neg (by omega)]; show nth xs (k + 1 - 1) = _; rw [Nat.add_sub_cancel, nth_eq xs k]; simp
theorem lenL_eq : ∀ (l : List α), lenL l = l.length
  | [] => rfl
  | _ :: xs => by show Nat.succ (lenL xs) = _; rw [lenL_eq xs]; rfl
theorem appL_eq : ∀ (l m : List α), appL l m = l ++ m
  | [], m => rfl
  | x :: xs, m => by show x :: appL xs m = _; rw [appL_eq xs m]; rfl
theorem dropL_eq : ∀ (l : List α) (k : Nat), dropL l k = l.drop k
  | [], k => by simp [dropL]
  | x :: xs, k => by
    show bsel (Nat.beq k 0) (x :: xs) (dropL xs (Nat.sub k 1)) = _
    rw [bsel_eq]
    simp only [Nat.beq_eq]
    cases k with
    | zero => simp
    | succ k => rw [if_neg (by omega)]; show dropL xs (k + 1 - 1) = _; rw [Nat.add_sub_cancel, dropL_eq xs k]; simp
theorem takeL_eq : ∀ (l : List α) (n : Nat), takeL l n = if n ≤ l.length then some (l.take n) else none
  | [], n => by
    show bsel (Nat.beq n 0) (some []) none = _
    rw [bsel_eq]
    simp only [Nat.beq_eq]
    by_cases h : n = 0 <;> simp [h]
  | x :: xs, n => by
    show bsel (Nat.beq n 0) (some []) (osel (takeL xs (Nat.sub n 1)) fun r => some (x :: r)) = _
    rw [bsel_eq]
    simp only [Nat.beq_eq]
    cases n with
    | zero => simp
    | succ n =>
      rw [if_neg (by omega)]
      show osel (takeL xs (n + 1 - 1)) _ = _
      rw [Nat.add_sub_cancel, takeL_eq xs n]
      by_cases h : n ≤ xs.length
      · rw [if_pos h, osel_some]; simp [h]
      · rw [if_neg h, osel_none]; simp [h]
theorem cut_some {l r : List α} {i n : Nat} (h : cut l i n = some r) : r = (l.drop i).take n ∧ r.length = n := by
  unfold cut at h
  rw [dropL_eq, takeL_eq] at h
  split at h
  · rename_i hle
    cases h
    exact ⟨rfl, by rw [List.length_take]; omega⟩
  · cases h
theorem overL_eq : ∀ (vs l : List α), overL vs l = if vs.length ≤ l.length then some (vs ++ l.drop vs.length) else none
  | [], l => by simp [overL]
  | v :: vs, [] => by
    show none = _
    simp
  | v :: vs, x :: xs => by
    show osel (overL vs xs) (fun r => some (v :: r)) = _
    rw [overL_eq vs xs]
    by_cases h : vs.length ≤ xs.length
    · rw [if_pos h, osel_some]; simp [h]
    · rw [if_neg h, osel_none]; simp [h]
theorem put_eq : ∀ (l : List α) (k : Nat) (vs : List α), put l k vs = if k + vs.length ≤ l.length then some (l.take k ++ vs ++ l.drop (k + vs.length)) else none
  | [], k, vs => by
    show bsel (Nat.beq k 0) (overL vs []) none = _
    rw [bsel_eq, overL_eq]
    simp only [Nat.beq_eq]
    cases k with
    | zero => simp
    | succ k => simp
  | x :: xs, k, vs => by
    show bsel (Nat.beq k 0) (overL vs (x :: xs)) (osel (put xs (Nat.sub k 1) vs) fun r => some (x :: r)) = _
    rw [bsel_eq, overL_eq]
    simp only [Nat.beq_eq]
    cases k with
    | zero => simp
    | succ k =>
      rw [if_neg (by omega)]
      show osel (put xs (k + 1 - 1) vs) _ = _
      rw [Nat.add_sub_cancel, put_eq xs k vs]
      by_cases h : k + vs.length ≤ xs.length
      · rw [if_pos h, osel_some, if_pos (by simp; omega)]
        simp [Nat.succ_add]
      · rw [if_neg h, osel_none, if_neg (by simp; omega)]
theorem put_some {l r vs : List α} {k : Nat} (h : put l k vs = some r) : k + vs.length ≤ l.length ∧ r = l.take k ++ vs ++ l.drop (k + vs.length) := by
  rw [put_eq] at h
  split at h
  · cases h; exact ⟨‹_›, rfl⟩
  · cases h
theorem put_get {l r vs : List α} {k : Nat} (h : put l k vs = some r) (j : Nat) : r[j]? = if j < k then l[j]? else if j < k + vs.length then vs[j - k]? else l[j]? := by
  obtain ⟨hle, rfl⟩ := put_some h
  by_cases h1 : j < k
  · rw [if_pos h1, List.append_assoc, List.getElem?_append_left (by simp; omega), List.getElem?_take_of_lt h1]
  · rw [if_neg h1]
    by_cases h2 : j < k + vs.length
    · rw [if_pos h2, List.append_assoc, List.getElem?_append_right (by simp; omega), List.length_take, Nat.min_eq_left (by omega), List.getElem?_append_left (by omega)]
    · rw [if_neg h2, List.getElem?_append_right (by simp; omega)]
      simp only [List.length_append, List.length_take, List.getElem?_drop]
      congr 1
      omega
theorem put_length {l r vs : List α} {k : Nat} (h : put l k vs = some r) : r.length = l.length := by
  obtain ⟨hle, rfl⟩ := put_some h
  simp
  omega
theorem repeatL_succ (z : List α) (n : Nat) : repeatL z (n + 1) = z ++ repeatL z n := appL_eq z (repeatL z n)
theorem repeatL_zero (z : List α) : repeatL z 0 = [] := rfl
theorem repeatL_length (z : List α) : ∀ n, (repeatL z n).length = n * z.length
  | 0 => by simp [repeatL_zero]
  | n + 1 => by rw [repeatL_succ, List.length_append, repeatL_length z n, Nat.succ_mul]; omega
end
end Go.Ev
