/- Contracts (7): rational numbers, the statements' tools, the law. -/
import Derived.Test.YtmbmidkdinllgaaGreatDoorGl6
open Nat (reduceEqDiff)
set_option maxHeartbeats 4000000
set_option linter.unusedSimpArgs false
set_option linter.unusedVariables false
namespace Go.Ev.Gl
variable {fns : T AFn}

/-! ## Slices that grow, of elements of k cells -/
def blkOf : AV → Option Nat
  | .sl b _ _ _ _ => some b
  | _ => none
/-- a slice that grows from nil, in memory newer than S0's -/
def GrW (k : Nat) (S0 S : St) (v : AV) (n : Nat) (cs : List AV) : Prop :=
  (v = .nilsl ∧ n = 0 ∧ cs = []) ∨ ∃ b, v = .sl b 0 n n true ∧ S0.nx ≤ b ∧ b < S.nx ∧ S.h.get b = some (.cells cs true k) ∧ cs.length = n * k
theorem GrW.step {k n : Nat} {S0 S S' : St} {v : AV} {cs : List AV} (h : GrW k S0 S v n cs) (hs : Same S S') : GrW k S0 S' v n cs := by
  rcases h with h | ⟨b, h1, h2, h3, h4, h5⟩
  · exact .inl h
  · exact .inr ⟨b, h1, h2, Nat.lt_of_lt_of_le h3 hs.1, (hs.2 b h3).trans h4, h5⟩
theorem GrW.len {k n : Nat} {S0 S : St} {v : AV} {cs : List AV} (h : GrW k S0 S v n cs) : lenSlV v = some (.int .i64 ((n : Nat) : Int)) := by
  rcases h with ⟨rfl, rfl, _⟩ | ⟨b, rfl, _⟩ <;> rfl
theorem GrW.app {k n m bytes : Nat} {S0 S : St} {v x : AV} {cs new : List AV} (h : GrW k S0 S v n cs) (hS : Same S0 S) (hl : lenOfV x = some m) (hs : srcCells x S.h k m = some new) (hn : new.length = m * k) (hm : 0 < m) (h1 : n + m ≤ room) (h2 : (n + m) * bytes ≤ room) :
    ∃ v' S', appendV bytes k v x S = some (v', S') ∧ GrW k S0 S' v' (n + m) (cs ++ new) ∧ Same S0 S' ∧ S.nx ≤ S'.nx ∧ ∀ c, c < S.nx → blkOf v ≠ some c → S'.h.get c = S.h.get c := by
  rcases h with ⟨rfl, rfl, rfl⟩ | ⟨b, rfl, hb0, hb, hg, hc⟩
  · refine ⟨.sl S.nx 0 m m true, ⟨S.h.set S.nx (some (.cells new true k)), S.nx + 1⟩, ?_, .inr ⟨S.nx, by rw [Nat.zero_add], hS.1, by simp, ?_, by rw [Nat.zero_add]; exact hn⟩, hS.trans (Same.alloc S _), by simp, fun c hc _ => (Same.alloc S _).2 c hc⟩
    · show (osel (lenOfV x) fun j => osel (srcCells x S.h k j) fun new => appV .nilsl bytes k j new S) = _
      rw [hl, osel_some, hs, osel_some]
      show appNil bytes k m new S = _
      unfold appNil
      rw [show Nat.beq m 0 = false from Bool.eq_false_iff.2 fun e => by rw [Nat.beq_eq] at e; omega, bsel_false, Nat.ble_eq_true_of_le (by omega), bsel_true, Nat.ble_eq_true_of_le (by rw [Nat.zero_add] at h2; exact h2), bsel_true]
      rfl
    · simp only
      rw [T.get_set, if_pos rfl]
      rfl
  · refine ⟨.sl S.nx 0 (n + m) (n + m) true, ⟨(S.h.set b none).set S.nx (some (.cells (cs ++ new) true k)), S.nx + 1⟩, ?_, .inr ⟨S.nx, rfl, hS.1, by simp, ?_, by rw [List.length_append, hc, hn, Nat.add_mul]⟩, ⟨Nat.le_trans hS.1 (by simp), fun c hc => ?_⟩, by simp, fun c hc hne => ?_⟩
    · show (osel (lenOfV x) fun j => osel (srcCells x S.h k j) fun new => appV (.sl b 0 n n true) bytes k j new S) = _
      rw [hl, osel_some, hs, osel_some]
      show appSl bytes k b 0 n n true m new S = _
      unfold appSl
      have e2 : Nat.ble (n + m) n = false := by rw [Bool.eq_false_iff]; intro h; have := Nat.le_of_ble_eq_true h; omega
      rw [e2, bsel_false, Nat.ble_eq_true_of_le h1, bsel_true, Nat.ble_eq_true_of_le h2, bsel_true, hg, osel_some]
      have e3 : cut cs 0 (n * k) = some cs := by
        unfold cut
        rw [takeL_eq, dropL_eq, List.drop_zero, if_pos (by omega), List.take_of_length_le (by omega)]
      have e4 : Nat.beq (0 + n * k) (lenL cs) = true := by rw [lenL_eq, hc, Nat.beq_eq]; omega
      have e5 : Nat.beq k k = true := Nat.beq_refl k
      simp only [growB, e3, osel_some, bsel_true, e4, e5, grown, appL_eq]
    · simp only
      rw [T.get_set, if_pos rfl]
    · simp only
      have := hS.1
      rw [T.get_set, if_neg (by omega), T.get_set, if_neg (by omega)]
      exact hS.2 c hc
    · simp only
      have : c ≠ b := fun e => hne (by rw [e]; rfl)
      rw [T.get_set, if_neg (by omega), T.get_set, if_neg this]

/-! ### a slice's head, of any integers -/
theorem IsSl.slc {k : IntKind} {S : St} {v : AV} {l : List Int} (h : IsSl k S v l) {i : Nat} (hi : i < l.length) {F : Fr} {x : Opd} (hx : natOf (x.val F) = some i) : slcV (.slice 1) v none (some x) none F = some (slHead v i) := by
  rcases h with ⟨h0, _⟩ | ⟨b, off, cap, o, cs, rfl, hc, hb, hcs, hel⟩
  · subst h0; simp at hi
  · have e1 : Nat.ble cap cap = true := Nat.ble_eq_true_of_le (Nat.le_refl _)
    have e2 : Nat.ble i cap = true := Nat.ble_eq_true_of_le (by omega)
    have e3 : Nat.ble 0 i = true := Nat.ble_eq_true_of_le (Nat.zero_le _)
    have e4 : Nat.beq cap 0 = false := by rw [Bool.eq_false_iff]; intro h; rw [Nat.beq_eq] at h; omega
    simp only [slcV, slSl, bounds, optNat, osel_some, hx, e1, e2, e3, bsel_true, e4, bsel_false, Nat.sub_zero, Nat.zero_mul, Nat.add_zero, Option.isNone_none]
    cases o <;> rfl
/-! ### bytes -/
theorem own8_sl {S : St} {b m N sz : Nat} {W : List Nat} {o o' : Bool} (h : S.h.get b = some (.cells (cells8 W) o sz)) (hb : b < S.nx) (hm : m ≤ N) (hW : m ≤ W.length) : IsSl .u8 S (.sl b 0 m N o') ((W.take m).map Int.ofNat) := by
  have hl : ((W.take m).map Int.ofNat).length = m := by rw [List.length_map, List.length_take]; omega
  refine .inr ⟨b, 0, N, o', cells8 W, by rw [hl], by rw [hl]; exact hm, hb, by unfold cellsAt; rw [h]; rfl, fun i x hi => ?_⟩
  have hlt : i < m := by have := (List.getElem?_eq_some_iff.1 hi).1; rw [hl] at this; exact this
  rw [List.getElem?_map, List.getElem?_take_of_lt hlt, Option.map_eq_some_iff] at hi
  obtain ⟨y, hy, rfl⟩ := hi
  rw [Nat.zero_add]
  unfold cells8
  rw [List.getElem?_map, hy]
  rfl
theorem ia8 {b m N i : Nat} {o : Bool} (hi : i < m) : iaddrV (.slice 1) (.sl b 0 m N o) i = some (.ptr b i) := by
  show bsel (Nat.blt i m) (some (AV.ptr b (0 + i * 1))) none = _
  rw [show Nat.blt i m = true from Nat.ble_eq_true_of_le hi, bsel_true]
  simp
theorem str8 {h : T AB} {b m N sz : Nat} {W : List Nat} {o o' : Bool} (hg : h.get b = some (.cells (cells8 W) o sz)) (hm : m ≤ W.length) (hW : ∀ x ∈ W.take m, x ≤ 255) : convV .bytesToStr (.sl b 0 m N o') h = some (.str (W.take m)) := by
  show (osel (osel (cellsAt h b) fun cs => cut cs 0 m) fun cs => osel (bytesOf cs) fun s => some (AV.str s)) = _
  unfold cellsAt
  rw [hg, osel_some]
  show (osel (osel (some (cells8 W)) fun cs => cut cs 0 m) _) = _
  rw [osel_some]
  have hcut : cut (cells8 W) 0 m = some (cells8 (W.take m)) := by
    unfold cut
    rw [takeL_eq, dropL_eq, List.drop_zero, if_pos (by rw [cells8_length]; exact hm)]
    unfold cells8
    rw [List.map_take]
  rw [hcut, osel_some, bytes8 hW, osel_some]
end Go.Ev.Gl

namespace Go.Ev.Gl
variable {fns : T AFn}

/-! ## The reference's text of a natural number -/
noncomputable def swapC : List AO := [⟨(some 69),(.q (.mv (.t 5))),none,0⟩,
⟨(some 70),(.q (.mv (.t 9))),none,0⟩,
⟨(some 71),(.q (.mv (.t 5))),none,0⟩,
⟨(some 72),(.q (.mv (.t 10))),none,0⟩,
⟨(some 73),(.q (.mv (.t 5))),none,0⟩,
⟨(some 74),(.q (.mv (.t 10))),none,0⟩,
⟨(some 75),(.q (.iaddr (.slice 1) (.t 73) (.t 74))),none,48⟩,
⟨(some 76),(.q (.ld false 1 (.t 75))),none,112⟩,
⟨(some 77),(.q (.mv (.t 5))),none,0⟩,
⟨(some 78),(.q (.mv (.t 9))),none,0⟩,
⟨(some 79),(.q (.iaddr (.slice 1) (.t 77) (.t 78))),none,768⟩,
⟨(some 80),(.q (.ld false 1 (.t 79))),none,1792⟩,
⟨(some 81),(.q (.iaddr (.slice 1) (.t 69) (.t 70))),none,4083⟩,
⟨none,(.x (.st 1 (.t 81) (.t 76))),none,8179⟩,
⟨(some 82),(.q (.iaddr (.slice 1) (.t 71) (.t 72))),none,16383⟩,
⟨none,(.x (.st 1 (.t 82) (.t 80))),none,32767⟩]
theorem wpd_st8 {i base b p w m : Nat} {D : DS} {Q : DS → Prop} {l : List AO} {x y : Opd} {W : List Nat} {o : Bool} {sz : Nat} (hl : lastOk D.hs m = true) (hps : D.ps = []) (hx : x.val D.F = .ptr b p) (hy : y.val D.F = .int .u8 (w : Int)) (hb : D.S.h.get b = some (.cells (cells8 W) o sz)) (hp : p < W.length)
    (hq : ∀ S1, SameBut b D.S S1 → S1.h.get b = some (.cells (cells8 (W.set p w)) o sz) → wpd fns l (i + 1) base ⟨D.F, S1, [], (i, m, S1.h) :: D.hs, D.ls⟩ Q) : wpd fns (⟨none, .x (.st 1 x y), none, m⟩ :: l) i base D Q := by
  have e : flush m D.ps D.S.h = ([], D.S.h) := by rw [hps]; rfl
  refine wpd_x (v := .undef) (S1 := ⟨D.S.h.set b (some (.cells (cells8 (W.set p w)) o sz)), D.S.nx⟩) hl (fun call => ?_) ?_
  · rw [e, evX_st, hx, hy, cells_int, osel_some]
    exact st8 (S := D.S) hb hp
  · rw [e]
    exact hq _ ((SameBut.refl b D.S).put _) (by simp only; rw [T.get_set, if_pos rfl])
theorem swap_drw {F : Fr} {S : St} {inr : Bool} {b m N i k x y : Nat} {W : List Nat} {o o' : Bool} {sz : Nat} {Q : Out → Act' → St → Prop} (p5 : tmpV 5 F = .sl b 0 m N o') (p9 : tmpV 9 F = .int .i64 (i : Int)) (p10 : tmpV 10 F = .int .i64 (k : Int)) (hb : S.h.get b = some (.cells (cells8 W) o sz)) (hlt : b < S.nx) (hi : i < m) (hk : k < m) (hW : m ≤ W.length) (hx : W[i]?.getD 0 = x) (hy : W[k]?.getD 0 = y)
    (hQ : ∀ F' S', tmpV 5 F' = .sl b 0 m N o' → tmpV 9 F' = .int .i64 (i : Int) → tmpV 10 F' = .int .i64 (k : Int) → SameBut b S S' → S'.h.get b = some (.cells (cells8 ((W.set i y).set k x)) o sz) → Q .normal ⟨F', inr⟩ S') : wpc fns (.drw swapC) ⟨F, inr⟩ S Q := by
  have li := ld8 hb (p := i) (by omega)
  have lk := ld8 hb (p := k) (by omega)
  rw [hx] at li
  rw [hy] at lk
  refine wpc_drw ?_
  unfold swapC
  simp only [wpd_qE, onSome_some, evQ_mv, evQ_iaddr, evQ_ld, val_t, tmpV_putF, reduceEqDiff, ↓reduceIte, p5, p9, p10, natOf_cast, osel_some, ia8 hi, ia8 hk, li, lk, isLoad_mv, isLoad_iaddr, isLoad_ld, bsel_true, bsel_false]
  refine wpd_st8 (b := b) (p := i) (w := y) (W := W) rfl rfl (by simp only [val_t, tmpV_putF, reduceEqDiff, ↓reduceIte]) (by simp only [val_t, tmpV_putF, reduceEqDiff, ↓reduceIte]) hb (by omega) ?_
  intro S1 s1 c1
  simp only [wpd_qE, onSome_some, evQ_iaddr, val_t, tmpV_putF, reduceEqDiff, ↓reduceIte, natOf_cast, osel_some, ia8 hk, isLoad_iaddr, bsel_false]
  refine wpd_st8 (b := b) (p := k) (w := x) (W := W.set i y) (show Nat.testBit 32767 13 = true by decide) rfl (by simp only [val_t, tmpV_putF, reduceEqDiff, ↓reduceIte]) (by simp only [val_t, tmpV_putF, reduceEqDiff, ↓reduceIte]) c1 (by rw [List.length_set]; omega) ?_
  intro S2 s2 c2
  rw [wpd_nil]
  refine ⟨?_, ?_⟩
  · have e1 : ∀ (ix : Nat) (z : Nat) (G : Fr) (sl : Nat) (msk ii : Nat), tmpV sl G = .ptr b ix → qLdV (.ptr b ix) false 1 S.h = some (.int .u8 (z : Int)) → Nat.testBit msk 13 = false → Nat.testBit 8179 ii = true → loadGo ⟨.ld false 1 (.t sl), G, .int .u8 (z : Int), ii, msk⟩ [(13, 8179, S1.h), (15, 32767, S2.h)] S.h = true := fun ix z G sl msk ii h1 h2 h3 h4 => by
      unfold loadGo
      have e : evQ (.ld false 1 (.t sl)) G S.h = some (.int .u8 (z : Int)) := by rw [evQ_ld, val_t, h1]; exact h2
      simp only [h3, h4, bsel_false, bsel_true, e, sameO_some, same_int]
    simp only [List.reverse_cons, List.reverse_nil, List.nil_append, List.cons_append, loadsOk_cons, loadsOk_nil]
    rw [e1 i x _ 79 1792 11 (by simp only [tmpV_putF, reduceEqDiff, ↓reduceIte]) li (by decide) (by decide), e1 k y _ 75 112 7 (by simp only [tmpV_putF, reduceEqDiff, ↓reduceIte]) lk (by decide) (by decide)]
    rfl
  · have hnx : SameBut b S ⟨S.h, S.nx + 16⟩ := (SameBut.refl b S).nx 16
    refine hQ _ _ (by simp only [tmpV_putF, reduceEqDiff, ↓reduceIte, p5]) (by simp only [tmpV_putF, reduceEqDiff, ↓reduceIte, p9]) (by simp only [tmpV_putF, reduceEqDiff, ↓reduceIte, p10]) (hnx.trans (s1.trans s2)) c2
end Go.Ev.Gl

namespace Go.Ev.Gl
variable {fns : T AFn}

def XTextJ (S : St) (v : AV) (i x0 : Nat) (d : List Nat) (k : Nat) (A : Act') (S' : St) : Prop :=
  A.inr = false ∧ ∃ (j : Nat) (E : List Nat) (u : AV), j + k = 9 ∧ E.length = j ∧ Digits E ∧ decVal E.reverse = x0 % 10 ^ j ∧ tmpV 0 A.F = v ∧ tmpV 6 A.F = .int .i64 (i : Int) ∧ tmpV 5 A.F = u ∧ tmpV 8 A.F = .int .i64 (j : Int) ∧ tmpV 7 A.F = .int .u32 ((x0 / 10 ^ j : Nat) : Int) ∧ GrW 1 S S' u (9 * i + j) (cells8 (d ++ E)) ∧ Same S S'
def XTextI (S : St) (v : AV) (l : List Nat) (k : Nat) (A : Act') (S' : St) : Prop :=
  A.inr = false ∧ ∃ (i : Nat) (d : List Nat) (u : AV), i + k = l.length ∧ d.length = 9 * i ∧ Digits d ∧ decVal d.reverse = val (l.take i) ∧ tmpV 0 A.F = v ∧ tmpV 6 A.F = .int .i64 (i : Int) ∧ tmpV 5 A.F = u ∧ GrW 1 S S' u (9 * i) (cells8 d) ∧ Same S S'
noncomputable def xtextC : AC := (.block 2 (.loop (.seq (.seq (.reg [⟨(some 26),(.q (.mv (.t 8))),none,0⟩,
⟨(some 27),(.q (.bin .lss (.p .int) (.t 26) (.c (.int .i64 (.ofNat 9))))),none,0⟩])
(.cond (.t 27) .skip (.exit 2)))
(.seq (.block 3 (.seq (.reg [⟨(some 30),(.q (.mv (.t 5))),none,0⟩,
⟨(some 31),(.q (.mv (.t 7))),none,0⟩,
⟨(some 32),(.q (.bin .rem (.p .int) (.t 31) (.c (.int .u32 (.ofNat 10))))),none,0⟩,
⟨(some 33),(.q (.bin .add (.p .int) (.c (.int .u32 (.ofNat 48))) (.t 32))),none,0⟩,
⟨(some 34),(.q (.conv (.int .u8) (.t 33))),none,0⟩,
⟨(some 35),(.a (.bslice 5 1 1 [(.int .u8 (.ofNat 0))] [(0,(.t 34))])),none,0⟩,
⟨(some 36),(.x (.app 5 1 1 (.t 30) (.t 35))),none,0⟩,
⟨(some 5),(.q (.mv (.t 36))),none,0⟩])
(.reg [⟨(some 37),(.q (.mv (.t 7))),none,0⟩,
⟨(some 38),(.q (.bin .quo (.p .int) (.t 37) (.c (.int .u32 (.ofNat 10))))),none,0⟩,
⟨(some 7),(.q (.mv (.t 38))),none,0⟩])))
(.reg [⟨(some 28),(.q (.mv (.t 8))),none,0⟩,
⟨(some 29),(.q (.bin .add (.p .int) (.t 28) (.c (.int .i64 (.ofNat 1))))),none,0⟩,
⟨(some 8),(.q (.mv (.t 29))),none,0⟩])))))
theorem src_one {S : St} {t : Nat} {x : AV} {o : Bool} {sz : Nat} (h : S.h.get t = some (.cells [x] o sz)) : srcCells (.sl t 0 1 1 false) S.h 1 1 = some [x] := by
  show osel (cellsAt S.h t) (fun cs => cut cs 0 (1 * 1)) = _
  unfold cellsAt
  rw [h]
  rfl
theorem xtext_in {S : St} {v : AV} {d : List Nat} {i x0 : Nat} {F : Fr} {X : St} {Q : Out → Act' → St → Prop} {c : AC} (hi : i < 1024) (hx : x0 < B)
    (h0 : XTextJ S v i x0 d 9 ⟨F, false⟩ X) (hc : c = xtextC) (hQ : ∀ F' X', XTextJ S v i x0 d 0 ⟨F', false⟩ X' → Q .normal ⟨F', false⟩ X') : wpc fns c ⟨F, false⟩ X Q := by
  have hB : B = 1000000000 := rfl
  subst hc
  refine wpc_block (wpc_loop (XTextJ S v i x0 d) ?_ 9 _ _ h0)
  clear h0
  rintro k ⟨F, inr⟩ X ⟨q0, j, E, u, hjk, hE, hdE, hvE, p0, p6, p5, p8, p7, hg, hS⟩
  simp only at q0 p0 p6 p5 p8 p7
  subst q0
  refine wss ?_
  simp only [↓stU, stD, reduceEqDiff, ↓reduceIte, p8]
  by_cases hj : j < 9
  · refine wpc_yes (by simp only [↓stU, stD, reduceEqDiff, ↓reduceIte, decide_eq_true (show (j : Int) < 9 by omega)]) (wpc_skip ?_)
    try simp only [↓stU, stD, reduceEqDiff, ↓reduceIte]
    have hxb : x0 / 10 ^ j ≤ 999999999 := Nat.le_trans (Nat.div_le_self ..) (by omega)
    have hrem := rem10 (x0 / 10 ^ j)
    have hquo := quo10 (t := x0 / 10 ^ j) (by omega)
    have hm : x0 / 10 ^ j % 10 < 10 := Nat.mod_lt _ (by decide)
    have hmod : x0 % 10 ^ (j + 1) = x0 % 10 ^ j + 10 ^ j * (x0 / 10 ^ j % 10) := Nat.mod_pow_succ
    have hdiv : x0 / 10 ^ j / 10 = x0 / 10 ^ (j + 1) := by rw [Nat.div_div_eq_div_mul, Nat.pow_succ]
    generalize hr : x0 / 10 ^ j % 10 = r at *
    have w1 : IntKind.u32.wrap (48 + (r : Int)) = ((48 + r : Nat) : Int) := by rw [wrap_u32 (by omega) (by omega)]; omega
    have w2 : IntKind.u8.wrap ((48 + r : Nat) : Int) = ((48 + r : Nat) : Int) := wrap_u8 (by omega) (by omega)
    have w3 : IntKind.i64.wrap ((j : Int) + 1) = ((j + 1 : Nat) : Int) := by rw [wrap_i64 (by omega) (by omega)]; omega
    refine wpc_seq (wpc_block (wpc_seq (wpc_reg ?_)))
    simp only [↓stU, stD, reduceEqDiff, ↓reduceIte, p5, p7, hrem, w1, w2]
    refine wpo_al (evA_one (k := .u8) (n := ((48 + r : Nat) : Int)) (by simp only [↓stU, stD, reduceEqDiff, ↓reduceIte])) ?_
    intro S2 s2 n2 c2
    obtain ⟨v', S3, happ, hg3, hS3, _, _⟩ := (hg.step s2).app (x := .sl X.nx 0 1 1 false) (m := 1) (bytes := 1) (hS.trans s2) rfl (src_one c2) rfl (by decide) (by unfold room; omega) (by unfold room; omega)
    try simp only [↓stU, stD, reduceEqDiff, ↓reduceIte]
    refine wpo_x (fun call => by simp only [↓stU, stD, reduceEqDiff, ↓reduceIte, evX_app, p5]; exact happ) ?_
    try simp only [↓stU, stD, reduceEqDiff, ↓reduceIte]
    refine wpc_reg ?_
    simp only [↓stU, stD, reduceEqDiff, ↓reduceIte, p7, hquo]
    refine wpc_reg ?_
    simp only [↓stU, stD, reduceEqDiff, ↓reduceIte, p8, w3]
    refine ⟨k - 1, by omega, rfl, j + 1, E ++ [48 + r], v', by omega, by simp [hE], ?_, ?_, by simp only [↓stU, stD, reduceEqDiff, ↓reduceIte, p0], by simp only [↓stU, stD, reduceEqDiff, ↓reduceIte, p6], by simp only [↓stU, stD, reduceEqDiff, ↓reduceIte], by simp only [↓stU, stD, reduceEqDiff, ↓reduceIte], by simp only [↓stU, stD, reduceEqDiff, ↓reduceIte, hdiv], ?_, hS3⟩
    · intro c hc
      rcases List.mem_append.1 hc with h | h
      · exact hdE c h
      · simp at h; omega
    · rw [List.reverse_append, List.reverse_cons, List.reverse_nil, List.nil_append, List.cons_append, List.nil_append, decVal_cons, List.length_reverse, hE, hvE, hmod]
      rw [show 48 + r - 48 = r by omega]
      omega
    · have : cells8 (d ++ (E ++ [48 + r])) = cells8 (d ++ E) ++ [.int .u8 ((48 + r : Nat) : Int)] := by unfold cells8; simp
      rw [this]
      exact hg3
  · refine wpc_non (by simp only [↓stU, stD, reduceEqDiff, ↓reduceIte, decide_eq_false (show ¬ (j : Int) < 9 by omega)]) (wpc_exit ?_)
    simp only [↓stU, stD, reduceEqDiff, ↓reduceIte]
    exact hQ _ _ ⟨rfl, j, E, u, by omega, hE, hdE, hvE, by simp only [↓stU, stD, reduceEqDiff, ↓reduceIte, p0], by simp only [↓stU, stD, reduceEqDiff, ↓reduceIte, p6], by simp only [↓stU, stD, reduceEqDiff, ↓reduceIte, p5], by simp only [↓stU, stD, reduceEqDiff, ↓reduceIte, p8], by simp only [↓stU, stD, reduceEqDiff, ↓reduceIte, p7], hg, hS⟩

def XStripI (S : St) (b N n : Nat) (D : List Nat) (k : Nat) (A : Act') (S' : St) : Prop :=
  A.inr = false ∧ k ≤ N ∧ decVal (D.take k).reverse = n ∧ tmpV 5 A.F = .sl b 0 k N true ∧ Same S S' ∧ b < S'.nx ∧ S'.h.get b = some (.cells (cells8 D) true 1)
def XRevI (S : St) (b N m : Nat) (D : List Nat) (k : Nat) (A : Act') (S' : St) : Prop :=
  A.inr = false ∧ ∃ (i : Nat) (W : List Nat), k = m - i ∧ i ≤ m ∧ tmpV 5 A.F = .sl b 0 m N true ∧ tmpV 9 A.F = .int .i64 (i : Int) ∧ tmpV 10 A.F = .int .i64 ((m : Int) - 1 - (i : Int)) ∧ Same S S' ∧ b < S'.nx ∧ S'.h.get b = some (.cells (cells8 W) true 1) ∧ W.length = D.length ∧ (∀ j, j < m → at' W j = if j < i ∨ m - i ≤ j then at' D (m - 1 - j) else at' D j)
theorem rev_done {W D : List Nat} {m i : Nat} (hm : m ≤ D.length) (hW : W.length = D.length) (hi : m - 1 ≤ 2 * i) (h : ∀ j, j < m → at' W j = if j < i ∨ m - i ≤ j then at' D (m - 1 - j) else at' D j) : W.take m = (D.take m).reverse := by
  refine List.ext_getElem (by simp; omega) fun j h1 h2 => ?_
  rw [List.length_take] at h1
  have hj : j < m := by omega
  have e1 : (W.take m)[j]'(by rw [List.length_take]; omega) = at' W j := by
    unfold at'
    rw [List.getElem?_eq_getElem (by omega), List.getElem_take]
    rfl
  have e2 : (D.take m).reverse[j]'h2 = at' D (m - 1 - j) := by
    rw [List.getElem_reverse, List.getElem_take]
    unfold at'
    rw [List.getElem?_eq_getElem (by omega), Option.getD_some]
    congr 1
    rw [List.length_take]
    omega
  rw [e1, e2, h j hj]
  split
  · rfl
  · rw [show m - 1 - j = j by omega]
theorem at_set {W : List Nat} {i j x : Nat} (hi : i < W.length) : at' (W.set i x) j = if j = i then x else at' W j := by
  unfold at'
  rw [List.getElem?_set]
  by_cases h : i = j
  · subst h; rw [if_pos rfl, if_pos rfl, if_pos hi]; rfl
  · rw [if_neg h, if_neg (Ne.symm h)]

set_option maxHeartbeats 4000000 in
theorem xtext_spec {S : St} {v : AV} {n : Nat} (H : Has fns) (h : NatIs S v n) (hn : n < B ^ 1024) : wpf fns (.fn 21 [] []) [v] S fun r S' => ∃ s, r = .tup [.str s, .int .i64 0] ∧ IsDec s n ∧ s.length ≤ 9216 ∧ Same S S' := by
  have hB : B = 1000000000 := rfl
  obtain ⟨l, hl, hln, rfl⟩ := h
  have hlen : l.length ≤ 1024 := len_le hln hn
  refine wpf_fn H.f21 (by simp) ?_
  simp only [↓stU, stD, reduceEqDiff, ↓reduceIte]
  refine wsr ?_
  simp only [↓stU, stD, reduceEqDiff, ↓reduceIte]
  refine wss ?_
  simp only [↓stU, stD, reduceEqDiff, ↓reduceIte]
  refine wpo_call ?_
  try simp only [↓stU, stD, reduceEqDiff, ↓reduceIte]
  refine wpf_mono (xcheck_spec H hl) ?_
  rintro _ S1 ⟨rfl, hS1⟩
  rw [hS1, chk_zero.2 ⟨hlen, hln⟩]
  try simp only [↓stU, stD, reduceEqDiff, ↓reduceIte]
  refine wsr ?_
  simp only [↓stU, stD, reduceEqDiff, ↓reduceIte]
  refine wpc_non (by simp only [↓stU, stD, reduceEqDiff, ↓reduceIte]; rfl) (wpc_skip ?_)
  try simp only [↓stU, stD, reduceEqDiff, ↓reduceIte]
  refine wsr ?_
  simp only [↓stU, stD, reduceEqDiff, ↓reduceIte]
  refine wss ?_
  simp only [↓stU, stD, reduceEqDiff, ↓reduceIte]
  refine wpc_mono (Q := fun o A' X => o = .normal ∧ XTextI S v l 0 A' X) (wpc_block (wpc_loop (XTextI S v l) ?_ l.length _ _ ⟨rfl, 0, [], .nilsl, by omega, rfl, fun c hc => (by cases hc), by simp [decVal_nil, val_nil], by simp only [↓stU, stD, reduceEqDiff, ↓reduceIte], by simp only [↓stU, stD, reduceEqDiff, ↓reduceIte], by simp only [↓stU, stD, reduceEqDiff, ↓reduceIte], .inl ⟨rfl, rfl, rfl⟩, Same.refl S⟩)) ?_
  · rintro k ⟨F, inr⟩ X ⟨q0, i, d, u, hik, hd, hdd, hvd, p0, p6, p5, hg, hS⟩
    simp only at q0 p0 p6 p5
    subst q0
    refine wss ?_
    simp only [↓stU, stD, reduceEqDiff, ↓reduceIte, p0, p6, hl.len]
    by_cases hi : i < l.length
    · refine wpc_yes (by simp only [↓stU, stD, reduceEqDiff, ↓reduceIte, decide_eq_true (show (i : Int) < ((l.length : Nat) : Int) by omega)]) (wpc_skip ?_)
      try simp only [↓stU, stD, reduceEqDiff, ↓reduceIte]
      have hlX := hl.same hS
      have hld := hlX.ld hi
      rw [List.getD_eq_getElem?_getD] at hld
      have hx := getD_lt hln.1 i
      have htk := val_take_get l i
      generalize l[i]?.getD 0 = x0 at *
      have w1 : IntKind.i64.wrap ((i : Int) + 1) = ((i + 1 : Nat) : Int) := by rw [wrap_i64 (by omega) (by omega)]; omega
      refine wpc_seq (wpc_block (wpc_seq (wpc_reg ?_)))
      simp only [↓stU, stD, reduceEqDiff, ↓reduceIte, p0, p6, natOf_cast, hl.iaddr hi, hld]
      refine wsr ?_
      simp only [↓stU, stD, reduceEqDiff, ↓reduceIte]
      refine xtext_in (S := S) (v := v) (i := i) (x0 := x0) (d := d) (by omega) hx ⟨rfl, 0, [], u, by omega, rfl, fun c hc => (by cases hc), by simp [decVal_nil, Nat.mod_one], by simp only [↓stU, stD, reduceEqDiff, ↓reduceIte, p0], by simp only [↓stU, stD, reduceEqDiff, ↓reduceIte, p6], by simp only [↓stU, stD, reduceEqDiff, ↓reduceIte, p5], by simp only [↓stU, stD, reduceEqDiff, ↓reduceIte], by simp only [↓stU, stD, reduceEqDiff, ↓reduceIte, Nat.pow_zero, Nat.div_one], by rw [List.append_nil, Nat.add_zero]; exact hg, hS⟩ rfl ?_
      rintro F' X' ⟨_, j, E, u', hj, hE, hdE, hvE, p0, p6, p5, p8, p7, hg, hS⟩
      simp only at p0 p6 p5
      have hj9 : j = 9 := by omega
      subst hj9
      try simp only [↓stU, stD, reduceEqDiff, ↓reduceIte]
      refine wpc_reg ?_
      simp only [↓stU, stD, reduceEqDiff, ↓reduceIte, p6, w1]
      refine ⟨k - 1, by omega, rfl, i + 1, d ++ E, u', by omega, by simp [hE, hd]; omega, Digits.append.2 ⟨hdd, hdE⟩, ?_, by simp only [↓stU, stD, reduceEqDiff, ↓reduceIte, p0], by simp only [↓stU, stD, reduceEqDiff, ↓reduceIte], by simp only [↓stU, stD, reduceEqDiff, ↓reduceIte, p5], by rw [show 9 * (i + 1) = 9 * i + 9 by omega]; exact hg, hS⟩
      rw [List.reverse_append, decVal_append, hvE, hvd, List.length_reverse, hd, pow9, htk, show (10 : Nat) ^ 9 = B from rfl, Nat.mod_eq_of_lt hx]
      omega
    · refine wpc_non (by simp only [↓stU, stD, reduceEqDiff, ↓reduceIte, decide_eq_false (show ¬ (i : Int) < ((l.length : Nat) : Int) by omega)]) (wpc_exit ?_)
      simp only [↓stU, stD, reduceEqDiff, ↓reduceIte]
      exact ⟨rfl, i, d, u, by omega, hd, hdd, hvd, by simp only [↓stU, stD, reduceEqDiff, ↓reduceIte, p0], by simp only [↓stU, stD, reduceEqDiff, ↓reduceIte, p6], by simp only [↓stU, stD, reduceEqDiff, ↓reduceIte, p5], hg, hS⟩
  rintro o ⟨F, inr⟩ X ⟨rfl, q0, i, D, u, hik, hD, hdD, hvD, p0, p6, p5, hg, hS⟩
  simp only at q0 p5
  subst q0
  have hil : i = l.length := by omega
  subst hil
  rw [List.take_length] at hvD
  try simp only [↓stU, stD, reduceEqDiff, ↓reduceIte]
  by_cases hl0 : l = []
  · -- no limbs
    have hlu : lenSlV u = some (.int .i64 0) := by rw [hg.len, hl0]; rfl
    refine wpc_seq (wpc_block (wpc_loop (fun k A X' => k = 0 ∧ A.inr = false ∧ X' = X ∧ tmpV 5 A.F = u) ?_ 0 _ _ ⟨rfl, rfl, rfl, p5⟩))
    rintro k ⟨F, inr⟩ Y ⟨_, q0, hY, p5⟩
    simp only at q0 p5
    subst q0
    rw [hY]
    refine wss ?_
    have h00 : decide ((0 : Int) < 0) = false := rfl
    simp only [↓stU, stD, reduceEqDiff, ↓reduceIte, p5, hlu, h00]
    refine wpc_non (by simp only [↓stU, stD, reduceEqDiff, ↓reduceIte]) (wpc_exit ?_)
    simp only [↓stU, stD, reduceEqDiff, ↓reduceIte]
    refine wss ?_
    simp only [↓stU, stD, reduceEqDiff, ↓reduceIte, p5, hlu]
    refine wpc_yes (by simp only [↓stU, stD, reduceEqDiff, ↓reduceIte]; rfl) ?_
    refine wsr ?_
    simp only [↓stU, stD, reduceEqDiff, ↓reduceIte]
    refine wpc_ret ?_
    simp only [↓stU, stD, reduceEqDiff, ↓reduceIte]
    rw [hl0]
    exact ⟨_, rfl, ⟨fun c hc => (by simp at hc; omega), by simp, rfl, fun _ => rfl⟩, by simp, hS⟩
  have hlp := List.length_pos_iff.2 hl0
  obtain ⟨b, hu, hb0, hbX, hblk, _⟩ : ∃ b, u = .sl b 0 (9 * l.length) (9 * l.length) true ∧ S.nx ≤ b ∧ b < X.nx ∧ X.h.get b = some (.cells (cells8 D) true 1) ∧ (cells8 D).length = 9 * l.length * 1 := by
    rcases hg with ⟨_, h9, _⟩ | h
    · omega
    · exact h
  subst hu
  have hpos : 0 < val l := by
    rcases Nat.eq_zero_or_pos (val l) with h | h
    · rw [norm_zero hln] at h; exact absurd h hl0
    · exact h
  refine wpc_seq (wpc_mono (Q := fun o A' X' => o = .normal ∧ ∃ m, 0 < m ∧ at' D (m - 1) ≠ 48 ∧ XStripI S b (9 * l.length) (val l) D m A' X') (wpc_block (wpc_loop (XStripI S b (9 * l.length) (val l) D) ?_ (9 * l.length) _ _ ⟨rfl, Nat.le_refl _, by rw [List.take_of_length_le (by omega)]; exact hvD, p5, hS, hbX, hblk⟩)) ?_)
  · clear p0 p6 p5 hblk hbX hS
    rintro m ⟨F, inr⟩ Y ⟨q0, hmN, hv, p5, hS, hbY, hblk⟩
    simp only at q0 p5
    subst q0
    have hm0 : 0 < m := by
      rcases Nat.eq_zero_or_pos m with h | h
      · rw [h, List.take_zero, List.reverse_nil, decVal_nil] at hv; omega
      · exact h
    have hls : lenSlV (.sl b 0 m (9 * l.length) true) = some (.int .i64 ((m : Nat) : Int)) := rfl
    have w1 : IntKind.i64.wrap ((m : Int) - 1) = ((m - 1 : Nat) : Int) := by rw [wrap_i64 (by omega) (by omega)]; omega
    have hia := ia8 (b := b) (N := 9 * l.length) (o := true) (show m - 1 < m by omega)
    have hld := ld8 hblk (p := m - 1) (by omega)
    rw [show D[m - 1]?.getD 0 = at' D (m - 1) from rfl] at hld
    refine wss ?_
    simp only [↓stU, stD, reduceEqDiff, ↓reduceIte, p5, hls, decide_eq_true (show (0 : Int) < ((m : Nat) : Int) by omega), w1, natOf_cast, hia, hld]
    by_cases hc : at' D (m - 1) = 48
    · refine wpc_yes (by simp only [↓stU, stD, reduceEqDiff, ↓reduceIte, decide_eq_true (show ((at' D (m - 1) : Nat) : Int) = 48 by omega)]) (wpc_skip ?_)
      try simp only [↓stU, stD, reduceEqDiff, ↓reduceIte]
      have hsl8 : IsSl .u8 Y (.sl b 0 m (9 * l.length) true) ((D.take m).map Int.ofNat) := own8_sl hblk hbY hmN (by omega)
      have hsc : ∀ F : Fr, tmpV 54 F = .int .i64 ((m - 1 : Nat) : Int) → slcV (.slice 1) (.sl b 0 m (9 * l.length) true) none (some (.t 54)) none F = some (.sl b 0 (m - 1) (9 * l.length) true) := fun F h => IsSl.slc hsl8 (i := m - 1) (by rw [List.length_map, List.length_take]; omega) (by rw [val_t, h, natOf_cast])
      refine wpc_block (wpc_reg ?_)
      simp only [↓stU, stD, reduceEqDiff, ↓reduceIte, p5, hls, w1, hsc]
      refine ⟨m - 1, by omega, rfl, by omega, ?_, by simp only [↓stU, stD, reduceEqDiff, ↓reduceIte], hS, hbY, hblk⟩
      have hdt : D.take m = D.take (m - 1) ++ [48] := by
        conv => lhs; rw [show m = m - 1 + 1 by omega]
        rw [List.take_add_one, List.getElem?_eq_getElem (by omega)]
        unfold at' at hc
        rw [List.getElem?_eq_getElem (by omega)] at hc
        simp at hc
        simp [hc]
      rw [hdt, List.reverse_append, List.reverse_cons, List.reverse_nil, List.nil_append, List.cons_append, List.nil_append, decVal_cons] at hv
      omega
    · refine wpc_non (by simp only [↓stU, stD, reduceEqDiff, ↓reduceIte, decide_eq_false (show ¬ ((at' D (m - 1) : Nat) : Int) = 48 by omega)]) (wpc_exit ?_)
      simp only [↓stU, stD, reduceEqDiff, ↓reduceIte]
      exact ⟨m, hm0, hc, rfl, hmN, hv, by simp only [↓stU, stD, reduceEqDiff, ↓reduceIte, p5], hS, hbY, hblk⟩
  clear p0 p6 p5 hblk hbX hS
  rintro o ⟨F, inr⟩ Y ⟨rfl, m, hm0, hc, q0, hmN, hv, p5, hS, hbY, hblk⟩
  simp only at q0 p5
  subst q0
  try simp only [↓stU, stD, reduceEqDiff, ↓reduceIte]
  have hls : lenSlV (.sl b 0 m (9 * l.length) true) = some (.int .i64 ((m : Nat) : Int)) := rfl
  have w1 : IntKind.i64.wrap ((m : Int) - 1) = (m : Int) - 1 := wrap_i64 (by omega) (by omega)
  refine wss ?_
  simp only [↓stU, stD, reduceEqDiff, ↓reduceIte, p5, hls]
  refine wpc_non (by simp only [↓stU, stD, reduceEqDiff, ↓reduceIte, decide_eq_false (show ¬ ((m : Nat) : Int) = 0 by omega)]) (wpc_skip ?_)
  try simp only [↓stU, stD, reduceEqDiff, ↓reduceIte]
  refine wss ?_
  simp only [↓stU, stD, reduceEqDiff, ↓reduceIte, p5, hls, w1]
  refine wpc_mono (Q := fun o A' X' => o = .normal ∧ A'.inr = false ∧ ∃ W, tmpV 5 A'.F = .sl b 0 m (9 * l.length) true ∧ Same S X' ∧ X'.h.get b = some (.cells (cells8 W) true 1) ∧ W.length = D.length ∧ W.take m = (D.take m).reverse) (wpc_block (wpc_loop (XRevI S b (9 * l.length) m D) ?_ m _ _ ⟨rfl, 0, D, by omega, by omega, by simp only [↓stU, stD, reduceEqDiff, ↓reduceIte, p5], by simp only [↓stU, stD, reduceEqDiff, ↓reduceIte], by simp only [↓stU, stD, reduceEqDiff, ↓reduceIte]; congr 1; omega, hS, hbY, hblk, rfl, fun j hj => by rw [if_neg (by omega)]⟩)) ?_
  · clear p5 hblk hbY hS
    rintro k ⟨F, inr⟩ Z ⟨q0, i, W, hk, him, p5, p9, p10, hS, hbZ, hblk, hWl, hW⟩
    simp only at q0 p5 p9 p10
    subst q0
    refine wss ?_
    simp only [↓stU, stD, reduceEqDiff, ↓reduceIte, p9, p10]
    by_cases hlt : (i : Int) < (m : Int) - 1 - (i : Int)
    · refine wpc_yes (by simp only [↓stU, stD, reduceEqDiff, ↓reduceIte, decide_eq_true hlt]) (wpc_skip ?_)
      try simp only [↓stU, stD, reduceEqDiff, ↓reduceIte]
      have e10 : (m : Int) - 1 - (i : Int) = ((m - 1 - i : Nat) : Int) := by omega
      rw [e10] at p10
      refine wpc_seq (wpc_block ?_)
      refine swap_drw (o' := true) (b := b) (m := m) (N := 9 * l.length) (i := i) (k := m - 1 - i) (x := at' W i) (y := at' W (m - 1 - i)) (W := W) (by simp only [↓stU, stD, reduceEqDiff, ↓reduceIte, p5]) (by simp only [↓stU, stD, reduceEqDiff, ↓reduceIte, p9]) (by simp only [↓stU, stD, reduceEqDiff, ↓reduceIte, p10]) hblk hbZ (by omega) (by omega) (by omega) rfl rfl ?_
      intro F' S' q5 q9 q10 hS' hb'
      try simp only [↓stU, stD, reduceEqDiff, ↓reduceIte]
      refine wpc_reg ?_
      have w2 : IntKind.i64.wrap ((i : Int) + 1) = ((i + 1 : Nat) : Int) := by rw [wrap_i64 (by omega) (by omega)]; omega
      have w3 : IntKind.i64.wrap (((m - 1 - i : Nat) : Int) - 1) = (m : Int) - 1 - ((i + 1 : Nat) : Int) := by rw [wrap_i64 (by omega) (by omega)]; omega
      simp only [↓stU, stD, reduceEqDiff, ↓reduceIte, q9, q10, w2, w3]
      refine ⟨m - (i + 1), by omega, rfl, i + 1, _, rfl, by omega, by simp only [↓stU, stD, reduceEqDiff, ↓reduceIte, q5], by simp only [↓stU, stD, reduceEqDiff, ↓reduceIte], by simp only [↓stU, stD, reduceEqDiff, ↓reduceIte], hS'.same hS hb0, Nat.lt_of_lt_of_le hbZ hS'.1, hb', by rw [List.length_set, List.length_set]; exact hWl, fun j hj => ?_⟩
      rw [at_set (by rw [List.length_set]; omega), at_set (by omega)]
      by_cases h1 : j = m - 1 - i
      · rw [if_pos h1, if_pos (by omega), hW i (by omega), if_neg (by omega)]
        congr 1; omega
      · rw [if_neg h1]
        by_cases h2 : j = i
        · rw [if_pos h2, if_pos (by omega), hW (m - 1 - i) (by omega), if_neg (by omega), h2]
        · rw [if_neg h2, hW j hj]
          by_cases h3 : j < i ∨ m - i ≤ j
          · rw [if_pos h3, if_pos (by omega)]
          · rw [if_neg h3, if_neg (by omega)]
    · refine wpc_non (by simp only [↓stU, stD, reduceEqDiff, ↓reduceIte, decide_eq_false hlt]) (wpc_exit ?_)
      simp only [↓stU, stD, reduceEqDiff, ↓reduceIte]
      exact ⟨W, by simp only [↓stU, stD, reduceEqDiff, ↓reduceIte, p5], hS, hblk, hWl, rev_done (by omega) hWl (by omega) hW⟩
  clear p5 hblk hbY hS
  rintro o ⟨F, inr⟩ Z ⟨rfl, q0, W, p5, hS, hblk, hWl, hrev⟩
  simp only at q0 p5
  subst q0
  try simp only [↓stU, stD, reduceEqDiff, ↓reduceIte]
  have hdm : Digits (D.take m).reverse := fun c hc => hdD c (List.mem_of_mem_take (List.mem_reverse.1 hc))
  have hstr := str8 (N := 9 * l.length) (o' := true) hblk (m := m) (by omega) (by rw [hrev]; exact fun x hx => by have := hdm x hx; omega)
  refine wsr ?_
  simp only [↓stU, stD, reduceEqDiff, ↓reduceIte, p5, hstr]
  refine wpc_ret ?_
  simp only [↓stU, stD, reduceEqDiff, ↓reduceIte]
  rw [hrev]
  refine ⟨_, rfl, ⟨hdm, ?_, hv, fun h => ?_⟩, by rw [List.length_reverse, List.length_take]; omega, hS⟩
  · intro e
    have := congrArg List.length e
    rw [List.length_reverse, List.length_take, List.length_nil] at this
    omega
  · rw [List.head?_reverse, List.getLast?_eq_getElem?, List.length_take, List.getElem?_take_of_lt (by omega)] at h
    refine absurd ?_ hc
    unfold at'
    rw [show min m D.length - 1 = m - 1 by omega] at h
    rw [h]
    rfl
end Go.Ev.Gl

namespace Go.Ev.Gl
variable {fns : T AFn}

/-! ## Texts of numbers that are handed over -/
def TextR (r : AV) (E : Int) (q : Rat) : Prop := ∃ s, r = .tup [.str s, .int .i64 E] ∧ (E = 0 → IsRatT s q) ∧ (E ≠ 0 → s = [])
section
variable {S : St} {a : AV} {E : Int} {q : Rat}
theorem ptextS (H : Has fns) (hL : Laid S) (hT : DigT S) (h : Solo S a E q) : wpf fns (.fn 6 [] []) [a] S fun r S' => TextR r E q ∧ Same S S' := by
  obtain ⟨a0, a1, a2, rfl⟩ := h.cells
  by_cases hE : E = 0
  · obtain ⟨h1, h2⟩ := h.ok hE
    subst hE
    refine wpf_mono (rtext_spec H hL hT h1 (bnd_in h2)) ?_
    rintro r S' ⟨s, rfl, hs, hS⟩
    exact ⟨⟨s, rfl, fun _ => hs, fun h => absurd rfl h⟩, hS⟩
  · refine wpf_fn H.f6 (by simp) ?_
    simp only [↓stU, stD, reduceEqDiff, ↓reduceIte]
    refine wsr ?_
    refine wpo_box (by simp only [↓stU, stD, reduceEqDiff, ↓reduceIte]; exact cells_agg _) ?_
    intro S1 s1 n1 c1
    simp only [↓stU, stD, reduceEqDiff, ↓reduceIte]
    refine wss ?_
    simp only [↓stU, stD, reduceEqDiff, ↓reduceIte, ld3 c1]
    refine wpo_call ?_
    simp only [↓stU, stD, reduceEqDiff, ↓reduceIte]
    refine wpf_mono (h.check H hL S1 s1) ?_
    rintro _ S2 ⟨rfl, hS2⟩
    try simp only [↓stU, stD, reduceEqDiff, ↓reduceIte]
    refine wsr ?_
    simp only [↓stU, stD, reduceEqDiff, ↓reduceIte]
    refine wpc_yes (by simp only [↓stU, stD, reduceEqDiff, ↓reduceIte, decide_eq_true (show E ≠ 0 from hE)]) ?_
    refine wsr ?_
    simp only [↓stU, stD, reduceEqDiff, ↓reduceIte]
    refine wpc_ret ?_
    simp only [↓stU, stD, reduceEqDiff, ↓reduceIte]
    exact ⟨⟨_, rfl, fun h => absurd h hE, fun _ => rfl⟩, s1.trans hS2⟩
theorem xtextS (H : Has fns) (h : Solo S a E q) : wpf fns (.fn 7 [] []) [a] S fun r S' => TextR r E q ∧ Same S S' := by
  obtain ⟨a0, a1, a2, rfl⟩ := h.cells
  refine wpf_fn H.f7 (by simp) ?_
  simp only [↓stU, stD, reduceEqDiff, ↓reduceIte]
  refine wsr ?_
  refine wpo_box (by simp only [↓stU, stD, reduceEqDiff, ↓reduceIte]; exact cells_agg _) ?_
  intro S1 s1 n1 c1
  simp only [↓stU, stD, reduceEqDiff, ↓reduceIte]
  refine wss ?_
  simp only [↓stU, stD, reduceEqDiff, ↓reduceIte, ld3 c1]
  refine wpo_call ?_
  simp only [↓stU, stD, reduceEqDiff, ↓reduceIte]
  refine wpf_mono (h.xcheck H S1 s1) ?_
  rintro _ S2 ⟨rfl, hS2⟩
  try simp only [↓stU, stD, reduceEqDiff, ↓reduceIte]
  have s2 := s1.trans hS2
  refine wsr ?_
  simp only [↓stU, stD, reduceEqDiff, ↓reduceIte]
  by_cases hE : E = 0
  rotate_left
  · refine wpc_yes (by simp only [↓stU, stD, reduceEqDiff, ↓reduceIte, decide_eq_true (show E ≠ 0 from hE)]) ?_
    refine wsr ?_
    simp only [↓stU, stD, reduceEqDiff, ↓reduceIte]
    refine wpc_ret ?_
    simp only [↓stU, stD, reduceEqDiff, ↓reduceIte]
    exact ⟨⟨_, rfl, fun h => absurd h hE, fun _ => rfl⟩, s2⟩
  obtain ⟨h1, h2⟩ := h.ok hE
  subst hE
  obtain ⟨nv, dv, hag, hnv, hdv⟩ := id h1
  have hq := bnd_in h2
  simp only [AV.agg.injEq, List.cons.injEq, and_true] at hag
  obtain ⟨rfl, rfl, rfl⟩ := hag
  refine wpc_non (by simp only [↓stU, stD, reduceEqDiff, ↓reduceIte]; rfl) (wpc_skip ?_)
  try simp only [↓stU, stD, reduceEqDiff, ↓reduceIte]
  have c2 : S2.h.get S.nx = some (.cells [.bool (decide (q.num < 0)), a1, a2] false 0) := by rw [hS2.2 _ (by omega)]; exact c1
  refine wsr ?_
  simp only [↓stU, stD, reduceEqDiff, ↓reduceIte, evQ_faddr, faddr_ptr, ld3_1 c2]
  refine wpo_call ?_
  simp only [↓stU, stD, reduceEqDiff, ↓reduceIte]
  refine wpf_mono (xtext_spec H (hnv.same s2) hq.1) ?_
  rintro _ S3 ⟨d, rfl, hd, hdl, hS3⟩
  simp only [↓stU, stD, reduceEqDiff, ↓reduceIte, ex0, ex1]
  have s3 := s2.trans hS3
  have l2 := hS2.1
  have l3 := hS3.1
  have c3 : S3.h.get S.nx = some (.cells [.bool (decide (q.num < 0)), a1, a2] false 0) := by rw [hS3.2 _ (by omega)]; exact c2
  refine wpc_seq (wpc_mono (Q := fun o A' X => o = .normal ∧ A'.inr = false ∧ X = S3 ∧ tmpV 1 A'.F = .ptr S.nx 0 ∧ tmpV 5 A'.F = .str (sgT (decide (q.num < 0)) ++ d)) (wpc_seq (wpc_reg ?_)) ?_)
  · simp only [↓stU, stD, reduceEqDiff, ↓reduceIte, evQ_faddr, faddr_ptr, ld3_0 c3]
    cases hb : decide (q.num < 0) with
    | true =>
      refine wpc_yes (by simp only [↓stU, stD, reduceEqDiff, ↓reduceIte, hb]) ?_
      refine wpc_reg ?_
      simp only [↓stU, stD, reduceEqDiff, ↓reduceIte, bin_add_str (.p .str) (a := [45]) (b := d) (by simp; omega)]
      rfl
    | false =>
      refine wpc_non (by simp only [↓stU, stD, reduceEqDiff, ↓reduceIte, hb]) (wpc_skip ?_)
      simp only [↓stU, stD, reduceEqDiff, ↓reduceIte]
      rfl
  rintro o ⟨F, inr⟩ X ⟨rfl, q0, hX, p1, p5⟩
  simp only at q0 p1 p5
  subst q0
  rw [hX]
  try simp only [↓stU, stD, reduceEqDiff, ↓reduceIte]
  refine wss ?_
  simp only [↓stU, stD, reduceEqDiff, ↓reduceIte, p1, evQ_faddr, faddr_ptr, ld3_2 c3]
  refine wpo_al (evA_one (k := .u32) (n := 1) rfl) ?_
  intro S4 hS4 n4 c4
  try simp only [↓stU, stD, reduceEqDiff, ↓reduceIte]
  refine wpo_call ?_
  simp only [↓stU, stD, reduceEqDiff, ↓reduceIte]
  have s4 := s3.trans hS4
  refine wpf_mono (xorder_spec H (hdv.same s4) (nat_one1 (by omega) c4) (Fits.of hq.2 (by decide))) ?_
  rintro _ S5 ⟨rfl, hS5⟩
  try simp only [↓stU, stD, reduceEqDiff, ↓reduceIte]
  have s5 := s4.trans hS5
  have l5 := hS5.1
  have c5 : S5.h.get S.nx = some (.cells [.bool (decide (q.num < 0)), a1, a2] false 0) := by rw [hS5.2 _ (by omega), hS4.2 _ (by omega)]; exact c3
  have hcmp : (cmpI q.den 1 = 0) ↔ q.den = 1 := by unfold cmpI; split <;> (try split) <;> simp <;> omega
  by_cases hd1 : q.den = 1
  · refine wpc_yes (by simp only [↓stU, stD, reduceEqDiff, ↓reduceIte, decide_eq_true (hcmp.2 hd1)]) ?_
    refine wsr ?_
    simp only [↓stU, stD, reduceEqDiff, ↓reduceIte, p5]
    refine wpc_ret ?_
    simp only [↓stU, stD, reduceEqDiff, ↓reduceIte]
    refine ⟨⟨_, rfl, fun _ => ⟨d, [49], hd, hdl, ?_, by simp, by rw [if_pos hd1]; simp⟩, fun h => absurd rfl h⟩, s5⟩
    rw [hd1]
    exact ⟨fun c hc => by simp at hc; omega, by simp, rfl, fun h => by cases h⟩
  · refine wpc_non (by simp only [↓stU, stD, reduceEqDiff, ↓reduceIte, decide_eq_false (fun h => hd1 (hcmp.1 h))]) (wpc_skip ?_)
    try simp only [↓stU, stD, reduceEqDiff, ↓reduceIte]
    refine wsr ?_
    simp only [↓stU, stD, reduceEqDiff, ↓reduceIte, p1, evQ_faddr, faddr_ptr, ld3_2 c5]
    refine wpo_call ?_
    simp only [↓stU, stD, reduceEqDiff, ↓reduceIte]
    refine wpf_mono (xtext_spec H (hdv.same s5) hq.2) ?_
    rintro _ S6 ⟨e, rfl, he, hel, hS6⟩
    simp only [↓stU, stD, reduceEqDiff, ↓reduceIte, ex0, ex1]
    have hsl : (sgT (decide (q.num < 0))).length ≤ 1 := by rw [sgT_len]; split <;> omega
    refine wsr ?_
    simp only [↓stU, stD, reduceEqDiff, ↓reduceIte, p5, bin_add_str (.p .str) (a := sgT (decide (q.num < 0)) ++ d) (b := [47]) (by simp; omega), bin_add_str (.p .str) (a := sgT (decide (q.num < 0)) ++ d ++ [47]) (b := e) (by simp; omega)]
    refine wpc_ret ?_
    simp only [↓stU, stD, reduceEqDiff, ↓reduceIte]
    exact ⟨⟨_, rfl, fun _ => ⟨d, e, hd, hdl, he, hel, by rw [if_neg hd1]; simp⟩, fun h => absurd rfl h⟩, s5.trans hS6⟩
theorem textR_eq {r r' : AV} (h : TextR r E q) (h' : TextR r' E q) : ∃ s, r = .tup [.str s, .int .i64 E] ∧ r' = .tup [.str s, .int .i64 E] := by
  obtain ⟨s, rfl, h1, h2⟩ := h
  obtain ⟨t, rfl, h3, h4⟩ := h'
  by_cases hE : E = 0
  · obtain ⟨d, e, a1, _, a2, _, a3⟩ := h1 hE
    obtain ⟨d', e', b1, _, b2, _, b3⟩ := h3 hE
    have e1 := isDec_inj a1 b1
    have e2 := isDec_inj a2 b2
    subst e1; subst e2
    rw [a3, b3]
    exact ⟨_, rfl, rfl⟩
  · rw [h2 hE, h4 hE]
    exact ⟨_, rfl, rfl⟩
end
end Go.Ev.Gl

namespace Go.Ev.Gl
variable {fns : T AFn}

/-! ## The reference's Parse of a natural number -/
def XBadI (S : St) (b : Nat) (s : List Nat) (k : Nat) (A : Act') (S' : St) : Prop :=
  A.inr = false ∧ S' = S ∧ ∃ i, i + k = s.length ∧ Digits (s.take i) ∧ tmpV 0 A.F = .str s ∧ tmpV 3 A.F = .ptr b 0 ∧ tmpV 4 A.F = .int .i64 (i : Int)
def XChunkI (S0 : St) (s : List Nat) (F0 : Fr) (lo hi : Nat) (k : Nat) (A : Act') (S' : St) : Prop :=
  A.inr = false ∧ S' = S0 ∧ ∃ i, i + k = hi ∧ lo ≤ i ∧ (∀ j, j < 7 → tmpV j A.F = tmpV j F0) ∧ tmpV 8 A.F = .int .i64 (i : Int) ∧ tmpV 7 A.F = .int .u32 ((decVal ((s.take i).drop lo) : Nat) : Int)
noncomputable def xchunkC : AC := (.block 4 (.loop (.seq (.seq (.reg [⟨(some 54),(.q (.mv (.t 8))),none,0⟩,
⟨(some 55),(.q (.mv (.t 6))),none,0⟩,
⟨(some 56),(.q (.bin .lss (.p .int) (.t 54) (.t 55))),none,0⟩])
(.cond (.t 56) .skip (.exit 4)))
(.seq (.block 5 (.reg [⟨(some 59),(.q (.mv (.t 7))),none,0⟩,
⟨(some 60),(.q (.bin .mul (.p .int) (.c (.int .u32 (.ofNat 10))) (.t 59))),none,0⟩,
⟨(some 61),(.q (.mv (.t 0))),none,0⟩,
⟨(some 62),(.q (.mv (.t 8))),none,0⟩,
⟨(some 63),(.q (.idxStr (.t 61) (.t 62))),none,0⟩,
⟨(some 64),(.q (.bin .sub (.p .int) (.t 63) (.c (.int .u8 (.ofNat 48))))),none,0⟩,
⟨(some 65),(.q (.conv (.int .u32) (.t 64))),none,0⟩,
⟨(some 66),(.q (.bin .add (.p .int) (.t 60) (.t 65))),none,0⟩,
⟨(some 7),(.q (.mv (.t 66))),none,0⟩]))
(.reg [⟨(some 57),(.q (.mv (.t 8))),none,0⟩,
⟨(some 58),(.q (.bin .add (.p .int) (.t 57) (.c (.int .i64 (.ofNat 1))))),none,0⟩,
⟨(some 8),(.q (.mv (.t 58))),none,0⟩])))))
theorem xchunk_in {S0 : St} {s : List Nat} {F0 F : Fr} {lo hi : Nat} {Q : Out → Act' → St → Prop} {c : AC} (hd : Digits s) (h1 : lo ≤ hi) (h2 : hi ≤ s.length) (h9 : hi - lo ≤ 9) (hs : s.length ≤ 9216) (hF : ∀ j, j < 7 → tmpV j F = tmpV j F0) (q0 : tmpV 0 F0 = .str s) (q6 : tmpV 6 F0 = .int .i64 (hi : Int)) (p8 : tmpV 8 F = .int .i64 (lo : Int)) (p7 : tmpV 7 F = .int .u32 0) (hc : c = xchunkC)
    (hQ : ∀ F', (∀ j, j < 7 → tmpV j F' = tmpV j F0) → tmpV 7 F' = .int .u32 ((decVal ((s.take hi).drop lo) : Nat) : Int) → Q .normal ⟨F', false⟩ S0) : wpc fns c ⟨F, false⟩ S0 Q := by
  subst hc
  refine wpc_block (wpc_loop (XChunkI S0 s F0 lo hi) ?_ (hi - lo) _ _ ⟨rfl, rfl, lo, by omega, Nat.le_refl _, hF, p8, by rw [p7, List.drop_of_length_le (by rw [List.length_take]; omega)]; rfl⟩)
  clear hF p8 p7
  rintro k ⟨F, inr⟩ X ⟨q, hX, i, hik, hlo, hF, p8, p7⟩
  simp only at q hF p8 p7
  subst q
  rw [hX]
  have p0 : tmpV 0 F = .str s := by rw [hF 0 (by decide)]; exact q0
  have p6 : tmpV 6 F = .int .i64 (hi : Int) := by rw [hF 6 (by decide)]; exact q6
  refine wss ?_
  simp only [↓stU, stD, reduceEqDiff, ↓reduceIte, p8, p6]
  by_cases hi' : i < hi
  · refine wpc_yes (by simp only [↓stU, stD, reduceEqDiff, ↓reduceIte, decide_eq_true (show (i : Int) < (hi : Int) by omega)]) (wpc_skip ?_)
    try simp only [↓stU, stD, reduceEqDiff, ↓reduceIte]
    have hix := idxStr_eq (s := s) (i := i) (by omega)
    have hcd := hd _ (at_mem (s := s) (i := i) (by omega))
    rw [show s[i]?.getD 0 = at' s i from rfl] at hix
    have htk : (s.take (i + 1)).drop lo = (s.take i).drop lo ++ [at' s i] := by
      rw [List.take_add_one, List.getElem?_eq_getElem (by omega), List.drop_append, List.length_take, show lo - min i s.length = 0 by omega]
      unfold at'
      rw [List.getElem?_eq_getElem (by omega)]
      rfl
    have hval : decVal ((s.take (i + 1)).drop lo) = 10 * decVal ((s.take i).drop lo) + (at' s i - 48) := by rw [htk, decVal_append, decVal_one]; simp
    have hlt : decVal ((s.take (i + 1)).drop lo) < 10 ^ 9 := Nat.lt_of_lt_of_le (decVal_lt (fun c hc => hd c (List.mem_of_mem_take (List.mem_of_mem_drop hc)))) (Nat.pow_le_pow_right (by decide) (by rw [List.length_drop, List.length_take]; omega))
    generalize at' s i = c at *
    generalize decVal ((s.take i).drop lo) = x at *
    have w1 : IntKind.u32.wrap (10 * (x : Int)) = ((10 * x : Nat) : Int) := by rw [wrap_u32 (by omega) (by omega)]; omega
    have w2 : IntKind.u8.wrap ((c : Int) - 48) = ((c - 48 : Nat) : Int) := by rw [wrap_u8 (by omega) (by omega)]; omega
    have w3 : IntKind.u32.wrap ((c - 48 : Nat) : Int) = ((c - 48 : Nat) : Int) := wrap_u32 (by omega) (by omega)
    have w4 : IntKind.u32.wrap (((10 * x : Nat) : Int) + ((c - 48 : Nat) : Int)) = ((decVal ((s.take (i + 1)).drop lo) : Nat) : Int) := by rw [hval, wrap_u32 (by omega) (by omega)]; omega
    have w5 : IntKind.i64.wrap ((i : Int) + 1) = ((i + 1 : Nat) : Int) := by rw [wrap_i64 (by omega) (by omega)]; omega
    refine wpc_seq (wpc_block (wpc_reg ?_))
    simp only [↓stU, stD, reduceEqDiff, ↓reduceIte, p0, p7, p8, evQ_idxStr, natOf_cast, hix, w1, w2, w3, w4]
    refine wpc_reg ?_
    simp only [↓stU, stD, reduceEqDiff, ↓reduceIte, p8, w5]
    refine ⟨k - 1, by omega, rfl, rfl, i + 1, by omega, by omega, ?_, by simp only [↓stU, stD, reduceEqDiff, ↓reduceIte], by simp only [↓stU, stD, reduceEqDiff, ↓reduceIte]⟩
    intro j hj
    simp only [tmpV_putF, show ∀ d, 7 ≤ d → (j = d) = False from fun d hd => by simp; omega, Nat.reduceLeDiff, if_false]
    exact hF j hj
  · refine wpc_non (by simp only [↓stU, stD, reduceEqDiff, ↓reduceIte, decide_eq_false (show ¬ (i : Int) < (hi : Int) by omega)]) (wpc_exit ?_)
    simp only [↓stU, stD, reduceEqDiff, ↓reduceIte]
    have he : i = hi := by omega
    subst he
    refine hQ _ ?_ (by simp only [↓stU, stD, reduceEqDiff, ↓reduceIte, p7])
    intro j hj
    simp only [tmpV_putF, show ∀ d, 7 ≤ d → (j = d) = False from fun d hd => by simp; omega, Nat.reduceLeDiff, if_false]
    exact hF j hj

set_option maxHeartbeats 4000000 in
theorem xparse_spec {S : St} {s : List Nat} (H : Has fns) : wpf fns (.fn 29 [] []) [.str s] S fun r S' => ∃ u, r = .tup [u, .agg [.int .i64 (natF s).1, .int .i64 (natF s).2]] ∧ ((natF s).1 = 0 → NatIs S' u (decVal s)) ∧ ((natF s).1 ≠ 0 → u = .nilsl) ∧ Same S S' := by
  have hB : B = 1000000000 := rfl
  refine wpf_fn H.f29 (by simp) ?_
  simp only [↓stU, stD, reduceEqDiff, ↓reduceIte]
  refine wsr ?_
  simp only [↓stU, stD, reduceEqDiff, ↓reduceIte]
  refine wpo_alloc ?_
  intro S1 s1 n1 c1
  simp only [↓stU, stD, reduceEqDiff, ↓reduceIte]
  refine wss ?_
  simp only [↓stU, stD, reduceEqDiff, ↓reduceIte, evQ_lenStr, lenStr_eq]
  unfold natF
  by_cases h1 : 9216 < s.length
  · rw [if_pos h1]
    refine wpc_yes (by simp only [↓stU, stD, reduceEqDiff, ↓reduceIte, decide_eq_true (show (9216 : Int) < ((s.length : Nat) : Int) by omega)]) ?_
    refine wsr ?_
    simp only [↓stU, stD, reduceEqDiff, ↓reduceIte, evQ_f2, cells_int]
    refine wpo_st (b := S.nx) (by simp only [↓stU, stD, reduceEqDiff, ↓reduceIte]) (by simp only [↓stU, stD, reduceEqDiff, ↓reduceIte, cells_agg]; rfl) c1 rfl rfl ?_
    intro S2 s2 n2 c2
    simp only [↓stU, stD, reduceEqDiff, ↓reduceIte]
    refine wpc_ret ?_
    simp only [↓stU, stD, reduceEqDiff, ↓reduceIte, results_cell, ld2a c2]
    exact ⟨_, rfl, fun h => (by cases h), fun _ => rfl, s2.same s1 (Nat.le_refl _)⟩
  rw [if_neg h1]
  refine wpc_non (by simp only [↓stU, stD, reduceEqDiff, ↓reduceIte, decide_eq_false (show ¬ (9216 : Int) < ((s.length : Nat) : Int) by omega)]) (wpc_skip ?_)
  try simp only [↓stU, stD, reduceEqDiff, ↓reduceIte]
  refine wpc_seq (wpc_mono (Q := fun o A' X => (o = .normal ∧ XBadI S1 S.nx s 0 A' X) ∨ (o = .ret ∧ badAt s < s.length ∧ tmpV 2 A'.F = .nilsl ∧ tmpV 3 A'.F = .ptr S.nx 0 ∧ SameBut S.nx S1 X ∧ X.h.get S.nx = some (.cells [.int .i64 11, .int .i64 (badAt s : Int)] false 0))) (wpc_seq (wpc_reg ?_)) ?_)
  · simp only [↓stU, stD, reduceEqDiff, ↓reduceIte]
    refine wpc_block (wpc_loop (XBadI S1 S.nx s) ?_ s.length _ _ ⟨rfl, rfl, 0, by omega, fun c hc => (by simp at hc), by simp only [↓stU, stD, reduceEqDiff, ↓reduceIte], by simp only [↓stU, stD, reduceEqDiff, ↓reduceIte], by simp only [↓stU, stD, reduceEqDiff, ↓reduceIte]⟩)
    rintro k ⟨F, inr⟩ X ⟨q0, hX, i, hik, hd, p0, p3, p4⟩
    simp only at q0 p0 p3 p4
    subst q0
    rw [hX]
    refine wss ?_
    simp only [↓stU, stD, reduceEqDiff, ↓reduceIte, p0, p4, evQ_lenStr, lenStr_eq]
    by_cases hi : i < s.length
    · refine wpc_yes (by simp only [↓stU, stD, reduceEqDiff, ↓reduceIte, decide_eq_true (show (i : Int) < ((s.length : Nat) : Int) by omega)]) (wpc_skip ?_)
      try simp only [↓stU, stD, reduceEqDiff, ↓reduceIte]
      have hix := idxStr_eq hi
      have hbad := badAt_eq hi hd
      have htk : s.take (i + 1) = s.take i ++ [s[i]?.getD 0] := by rw [List.take_add_one, List.getElem?_eq_getElem hi]; rfl
      generalize s[i]?.getD 0 = c at *
      refine wpc_seq (wpc_block ?_)
      refine wpc_seq (wpc_mono (Q := fun o A' X => o = .normal ∧ A'.inr = false ∧ X = S1 ∧ tmpV 0 A'.F = .str s ∧ tmpV 3 A'.F = .ptr S.nx 0 ∧ tmpV 4 A'.F = .int .i64 (i : Int) ∧ tmpV 28 A'.F = .bool (decide (c < 48 ∨ 57 < c))) (wpc_reg ?_) ?_)
      · by_cases hc1 : c < 48
        · simp only [↓stU, stD, reduceEqDiff, ↓reduceIte, p0, p3, p4, evQ_idxStr, natOf_cast, hix, decide_eq_true (show (c : Int) < 48 by omega), decide_eq_true (show c < 48 ∨ 57 < c by omega)]
        · by_cases hc2 : 57 < c
          · simp only [↓stU, stD, reduceEqDiff, ↓reduceIte, p0, p3, p4, evQ_idxStr, natOf_cast, hix, decide_eq_false (show ¬ (c : Int) < 48 by omega), decide_eq_true (show (57 : Int) < (c : Int) by omega), decide_eq_true (show c < 48 ∨ 57 < c by omega)]
          · simp only [↓stU, stD, reduceEqDiff, ↓reduceIte, p0, p3, p4, evQ_idxStr, natOf_cast, hix, decide_eq_false (show ¬ (c : Int) < 48 by omega), decide_eq_false (show ¬ (57 : Int) < (c : Int) by omega), decide_eq_false (show ¬ (c < 48 ∨ 57 < c) by omega)]
      clear p0 p3 p4
      rintro o ⟨F, inr⟩ X ⟨rfl, q0, hX, p0, p3, p4, p28⟩
      simp only at q0 p0 p3 p4 p28
      subst q0
      rw [hX]
      try simp only [↓stU, stD, reduceEqDiff, ↓reduceIte]
      by_cases hc : c < 48 ∨ 57 < c
      · refine wpc_yes (by simp only [↓stU, stD, reduceEqDiff, ↓reduceIte, p28, decide_eq_true hc]) ?_
        refine wsr ?_
        simp only [↓stU, stD, reduceEqDiff, ↓reduceIte, p4, evQ_f2, cells_int]
        refine wpo_st (b := S.nx) (by simp only [↓stU, stD, reduceEqDiff, ↓reduceIte, p3]) (by simp only [↓stU, stD, reduceEqDiff, ↓reduceIte, cells_agg]; rfl) c1 rfl rfl ?_
        intro S2 s2 n2 c2
        simp only [↓stU, stD, reduceEqDiff, ↓reduceIte]
        refine wpc_ret ?_
        simp only [↓stU, stD, reduceEqDiff, ↓reduceIte, p3]
        rw [hbad hc]
        exact .inr ⟨hi, s2, c2⟩
      · refine wpc_non (by simp only [↓stU, stD, reduceEqDiff, ↓reduceIte, p28, decide_eq_false hc]) (wpc_skip ?_)
        try simp only [↓stU, stD, reduceEqDiff, ↓reduceIte]
        refine wpc_reg ?_
        have w1 : IntKind.i64.wrap ((i : Int) + 1) = ((i + 1 : Nat) : Int) := by rw [wrap_i64 (by omega) (by omega)]; omega
        simp only [↓stU, stD, reduceEqDiff, ↓reduceIte, p4, w1]
        refine ⟨k - 1, by omega, rfl, rfl, i + 1, by omega, ?_, by simp only [↓stU, stD, reduceEqDiff, ↓reduceIte, p0], by simp only [↓stU, stD, reduceEqDiff, ↓reduceIte, p3], by simp only [↓stU, stD, reduceEqDiff, ↓reduceIte]⟩
        rw [htk]
        exact Digits.append.2 ⟨hd, fun x hx => by simp at hx; omega⟩
    · refine wpc_non (by simp only [↓stU, stD, reduceEqDiff, ↓reduceIte, decide_eq_false (show ¬ (i : Int) < ((s.length : Nat) : Int) by omega)]) (wpc_exit ?_)
      simp only [↓stU, stD, reduceEqDiff, ↓reduceIte]
      exact .inl ⟨rfl, rfl, i, by omega, hd, by simp only [↓stU, stD, reduceEqDiff, ↓reduceIte, p0], by simp only [↓stU, stD, reduceEqDiff, ↓reduceIte, p3], by simp only [↓stU, stD, reduceEqDiff, ↓reduceIte, p4]⟩
  rintro o ⟨F, inr⟩ X (⟨rfl, q0, hX, i, hik, hd, p0, p3, p4⟩ | ⟨rfl, hbad, p2, p3, hX, hc⟩)
  rotate_left
  · simp only at p2 p3
    rw [if_pos hbad]
    simp only [↓stU, stD, reduceEqDiff, ↓reduceIte, results_cell, p2, p3, ld2a hc]
    exact ⟨_, rfl, fun h => (by cases h), fun _ => rfl, hX.same s1 (Nat.le_refl _)⟩
  simp only at q0 p0 p3
  subst q0
  rw [hX]
  rw [List.take_of_length_le (by omega)] at hd
  rw [if_neg (badAt_digits.2 hd)]
  try simp only [↓stU, stD, reduceEqDiff, ↓reduceIte]
  clear p4
  refine wpc_seq (wpc_seq (wpc_mono (Q := fun o A' X => o = .normal ∧ A'.inr = false ∧ X = S1 ∧ tmpV 0 A'.F = .str s ∧ tmpV 3 A'.F = .ptr S.nx 0 ∧ tmpV 43 A'.F = .bool (decide (s = [] ∨ (1 < s.length ∧ s.head? = some 48)))) (wpc_reg ?_) ?_))
  · cases s with
    | nil => simp only [↓stU, stD, reduceEqDiff, ↓reduceIte, p0, p3, evQ_lenStr, lenStr_eq, List.length_nil]; simp
    | cons c t =>
      have hix := idxStr_eq (s := c :: t) (i := 0) (by simp)
      rw [show (c :: t)[0]?.getD 0 = c from rfl] at hix
      cases t with
      | nil => simp only [↓stU, stD, reduceEqDiff, ↓reduceIte, p0, p3, evQ_lenStr, lenStr_eq]; simp
      | cons c' t =>
        by_cases hc : c = 48
        · subst hc
          simp only [↓stU, stD, reduceEqDiff, ↓reduceIte, p0, p3, evQ_lenStr, lenStr_eq, evQ_idxStr, nat0, hix, decide_eq_false (show ¬ (((48 :: c' :: t : List Nat).length : Nat) : Int) = 0 by simp; omega), decide_eq_true (show (1 : Int) < (((48 :: c' :: t : List Nat).length : Nat) : Int) by simp; omega)]
          simp
        · simp only [↓stU, stD, reduceEqDiff, ↓reduceIte, p0, p3, evQ_lenStr, lenStr_eq, evQ_idxStr, nat0, hix, decide_eq_false (show ¬ (((c :: c' :: t : List Nat).length : Nat) : Int) = 0 by simp; omega), decide_eq_true (show (1 : Int) < (((c :: c' :: t : List Nat).length : Nat) : Int) by simp; omega), decide_eq_false (show ¬ (c : Int) = 48 by omega)]
          simp [hc]
  rintro o ⟨F, inr⟩ X ⟨rfl, q0, hX, p0, p3, p43⟩
  simp only at q0 p0 p3 p43
  subst q0
  rw [hX]
  try simp only [↓stU, stD, reduceEqDiff, ↓reduceIte]
  by_cases hbad : s = [] ∨ (1 < s.length ∧ s.head? = some 48)
  · rw [if_pos hbad]
    refine wpc_yes (by simp only [↓stU, stD, reduceEqDiff, ↓reduceIte, p43, decide_eq_true hbad]) ?_
    refine wsr ?_
    simp only [↓stU, stD, reduceEqDiff, ↓reduceIte, evQ_f1, cells_int]
    refine wpo_st (b := S.nx) (by simp only [↓stU, stD, reduceEqDiff, ↓reduceIte, p3]) (by simp only [↓stU, stD, reduceEqDiff, ↓reduceIte, cells_agg]; rfl) c1 rfl rfl ?_
    intro S2 s2 n2 c2
    simp only [↓stU, stD, reduceEqDiff, ↓reduceIte]
    refine wpc_ret ?_
    simp only [↓stU, stD, reduceEqDiff, ↓reduceIte, results_cell, p3, ld2a c2]
    exact ⟨_, rfl, fun h => (by cases h), fun _ => rfl, s2.same s1 (Nat.le_refl _)⟩
  rw [if_neg hbad]
  refine wpc_non (by simp only [↓stU, stD, reduceEqDiff, ↓reduceIte, p43, decide_eq_false hbad]) (wpc_skip ?_)
  try simp only [↓stU, stD, reduceEqDiff, ↓reduceIte]
  refine wsr ?_
  simp only [↓stU, stD, reduceEqDiff, ↓reduceIte]
  refine wss ?_
  simp only [↓stU, stD, reduceEqDiff, ↓reduceIte, p0, evQ_lenStr, lenStr_eq]
  refine wpc_mono (Q := fun o A' X => o = .normal ∧ PMainI S1 S.nx s 0 A' X) (wpc_block (wpc_loop (PMainI S1 S.nx s) ?_ s.length _ _ ⟨rfl, [], .nilsl, by simp, by simp only [↓stU, stD, reduceEqDiff, ↓reduceIte, p0], by simp only [↓stU, stD, reduceEqDiff, ↓reduceIte, p3], by simp only [↓stU, stD, reduceEqDiff, ↓reduceIte], by simp only [↓stU, stD, reduceEqDiff, ↓reduceIte, List.length_nil]; simp, .inl rfl, .inl ⟨rfl, rfl⟩, Same.refl S1, Small.nil, by simp [val_nil]⟩)) ?_
  · rintro k ⟨F, inr⟩ X ⟨q0, d, u, hk, p0, p3, p5, p6, hlow, hg, hS, hsd, hinv⟩
    simp only at q0 p0 p3 p5 p6
    subst q0
    refine wss ?_
    simp only [↓stU, stD, reduceEqDiff, ↓reduceIte, p6]
    by_cases hk0 : 0 < k
    · refine wpc_yes (by simp only [↓stU, stD, reduceEqDiff, ↓reduceIte, decide_eq_true (show (0 : Int) < (s.length : Int) - 9 * (d.length : Int) by omega)]) (wpc_skip ?_)
      try simp only [↓stU, stD, reduceEqDiff, ↓reduceIte]
      have hkk : (s.length : Int) - 9 * (d.length : Int) = (k : Int) := by omega
      rw [hkk] at p6
      refine wpc_seq (wpc_block (wpc_seq (wpc_reg ?_)))
      simp only [↓stU, stD, reduceEqDiff, ↓reduceIte]
      refine wss ?_
      have w1 : IntKind.i64.wrap ((k : Int) - 9) = (k : Int) - 9 := wrap_i64 (by omega) (by omega)
      have hmx : mx 0 ((k : Int) - 9) = ((k - 9 : Nat) : Int) := by unfold mx; split <;> omega
      have hw : Digits ((s.take k).drop (k - 9)) := fun c hc => hd c (List.mem_of_mem_take (List.mem_of_mem_drop hc))
      have hwl : ((s.take k).drop (k - 9)).length ≤ 9 := by simp; omega
      have hch := dec_chunk s k (by omega)
      have hlt : decVal ((s.take k).drop (k - 9)) < B := Nat.lt_of_lt_of_le (decVal_lt hw) (Nat.le_trans (Nat.pow_le_pow_right (n := 10) (by decide) hwl) (Nat.le_of_eq (show (10 : Nat) ^ 9 = B from rfl)))
      simp only [↓stU, stD, reduceEqDiff, ↓reduceIte, p6, w1, evQ_mm, mm_cons, mm_nil, mm_int, hmx]
      refine xchunk_in (lo := k - 9) (hi := k) hd (by omega) (by omega) (by omega) (by omega) (fun _ _ => rfl) (by simp only [↓stU, stD, reduceEqDiff, ↓reduceIte, p0]) (by simp only [↓stU, stD, reduceEqDiff, ↓reduceIte, p6]) (by simp only [↓stU, stD, reduceEqDiff, ↓reduceIte]) (by simp only [↓stU, stD, reduceEqDiff, ↓reduceIte]) rfl ?_
      intro F' hF' r7
      have r0 : tmpV 0 F' = .str s := by rw [hF' 0 (by decide)]; simp only [↓stU, stD, reduceEqDiff, ↓reduceIte, p0]
      have r3 : tmpV 3 F' = .ptr S.nx 0 := by rw [hF' 3 (by decide)]; simp only [↓stU, stD, reduceEqDiff, ↓reduceIte, p3]
      have r5 : tmpV 5 F' = u := by rw [hF' 5 (by decide)]; simp only [↓stU, stD, reduceEqDiff, ↓reduceIte, p5]
      have r6 : tmpV 6 F' = .int .i64 (k : Int) := by rw [hF' 6 (by decide)]; simp only [↓stU, stD, reduceEqDiff, ↓reduceIte, p6]
      generalize (s.take k).drop (k - 9) = w at *
      obtain ⟨v', S3, happ, hg3, hS3⟩ := hg.app (w := decVal w) (bytes := 4) hS (by unfold room; omega) (by unfold room; omega)
      try simp only [↓stU, stD, reduceEqDiff, ↓reduceIte]
      refine wpc_reg ?_
      simp only [↓stU, stD, reduceEqDiff, ↓reduceIte, ↓stV, stW, Nat.reduceAdd, r5, r7]
      rw [evA_one (k := .u32) (n := ((decVal w : Nat) : Int)) (by simp only [↓stU, stD, reduceEqDiff, ↓reduceIte, ↓stV, stW, Nat.reduceAdd])]
      try simp only [↓stU, stD, reduceEqDiff, ↓reduceIte, ↓stV, stW, Nat.reduceAdd]
      refine wpo_x (fun call => by simp only [↓stU, stD, reduceEqDiff, ↓reduceIte, ↓stV, stW, Nat.reduceAdd, evX_app, r5]; exact happ) ?_
      try simp only [↓stU, stD, reduceEqDiff, ↓reduceIte, ↓stV, stW, Nat.reduceAdd]
      refine wpc_reg ?_
      simp only [↓stU, stD, reduceEqDiff, ↓reduceIte, ↓stV, stW, Nat.reduceAdd, r6, w1]
      refine ⟨k - 9, by omega, rfl, d ++ [decVal w], v', by simp; omega, by simp only [↓stU, stD, reduceEqDiff, ↓reduceIte, ↓stV, stW, Nat.reduceAdd, r0], by simp only [↓stU, stD, reduceEqDiff, ↓reduceIte, ↓stV, stW, Nat.reduceAdd, r3], by simp only [↓stU, stD, reduceEqDiff, ↓reduceIte, ↓stV, stW, Nat.reduceAdd], by simp only [↓stU, stD, reduceEqDiff, ↓reduceIte, ↓stV, stW, Nat.reduceAdd, List.length_append]; congr 1; simp; omega, .inr (by simp; omega), hg3, hS3, Small.append.2 ⟨hsd, small_one hlt⟩, ?_⟩
      rw [val_snoc, List.length_append, List.length_cons, List.length_nil, Nat.pow_succ, ← hinv, hch, Nat.mul_add]
      have : B ^ d.length * B * decVal (s.take (k - 9)) = B ^ d.length * (B * decVal (s.take (k - 9))) := Nat.mul_assoc ..
      omega
    · refine wpc_non (by simp only [↓stU, stD, reduceEqDiff, ↓reduceIte, decide_eq_false (show ¬ (0 : Int) < (s.length : Int) - 9 * (d.length : Int) by omega)]) (wpc_exit ?_)
      simp only [↓stU, stD, reduceEqDiff, ↓reduceIte]
      have hk1 : k = 0 := by omega
      subst hk1
      exact ⟨rfl, d, u, hk, by simp only [↓stU, stD, reduceEqDiff, ↓reduceIte, p0], by simp only [↓stU, stD, reduceEqDiff, ↓reduceIte, p3], by simp only [↓stU, stD, reduceEqDiff, ↓reduceIte, p5], by simp only [↓stU, stD, reduceEqDiff, ↓reduceIte, p6], hlow, hg, hS, hsd, hinv⟩
  rintro o ⟨F, inr⟩ X ⟨rfl, q0, d, u, hk, p0, p3, p5, p6, hlow, hg, hS, hsd, hinv⟩
  simp only at q0 p0 p3 p5 p6
  subst q0
  rw [List.take_zero, decVal_nil, Nat.mul_zero, Nat.add_zero] at hinv
  have cX : X.h.get S.nx = some (.cells [.int .i64 0, .int .i64 0] false 0) := by rw [hS.2 _ (by omega)]; exact c1
  have hSX := s1.trans hS
  try simp only [↓stU, stD, reduceEqDiff, ↓reduceIte]
  refine wsr ?_
  simp only [↓stU, stD, reduceEqDiff, ↓reduceIte, p5]
  refine wpo_call ?_
  simp only [↓stU, stD, reduceEqDiff, ↓reduceIte]
  have hdl : ∀ m : Nat, d = [] ∨ 9 * (m - 1) < s.length → m < 1000000000000 ∨ d = [] := fun m h => by
    rcases h with h | h
    · exact .inr h
    · left; omega
  have hdl' : d.length < 1000000000000 := by
    rcases hdl d.length hlow with h | h
    · exact h
    · rw [h]; simp
  refine wpf_mono (xtrim_spec H hg.limbs hsd hdl') ?_
  rintro t T ⟨ht, hT⟩
  rw [hinv] at ht
  rw [hT]
  simp only [↓stU, stD, reduceEqDiff, ↓reduceIte, evQ_f0]
  refine wpo_st (b := S.nx) (by simp only [↓stU, stD, reduceEqDiff, ↓reduceIte, p3]) (by simp only [↓stU, stD, reduceEqDiff, ↓reduceIte, cells_agg]; rfl) cX rfl rfl ?_
  intro S2 s2 n2 c2
  simp only [↓stU, stD, reduceEqDiff, ↓reduceIte]
  refine wpc_ret ?_
  simp only [↓stU, stD, reduceEqDiff, ↓reduceIte, results_cell, p3, ld2a c2]
  exact ⟨_, rfl, ht.stU cX rfl s2 c2, fun h => absurd rfl h, s2.same hSX (Nat.le_refl _)⟩
end Go.Ev.Gl

namespace Go.Ev.Gl
variable {fns : T AFn}

/-! ## The reference's Parse of a rational number -/
theorem odd_iff (c : Nat) : isOdd c ↔ ((c < 48 ∨ 57 < c) ∧ c ≠ 45) ∧ c ≠ 47 := by unfold isOdd; omega
theorem negIn_head (s : List Nat) : negIn s = (s.head? == some 45) := by
  unfold negIn above
  cases s with
  | nil => rfl
  | cons c t =>
    by_cases h : slashAt (c :: t) = 0
    · rw [h]
      have h47 : c = 47 := by
        have hlt : slashAt (c :: t) < (c :: t).length := by rw [h]; simp
        unfold slashAt firstP at h
        have := List.findIdx_getElem (xs := List.range (c :: t).length) (p := fun i => decide (at' (c :: t) i = 47)) (w := by rw [h]; simp)
        simp only [h, List.getElem_range, decide_eq_true_eq] at this
        exact this
      subst h47
      rfl
    · obtain ⟨k, hk⟩ := Nat.exists_eq_succ_of_ne_zero h
      rw [hk]
      rfl
def XOddI (S : St) (b2 b3 : Nat) (s : List Nat) (k : Nat) (A : Act') (S' : St) : Prop :=
  A.inr = false ∧ S' = S ∧ ∃ i, i + k = s.length ∧ (∀ j, j < i → ¬ isOdd (at' s j)) ∧ tmpV 0 A.F = .str s ∧ tmpV 2 A.F = .ptr b2 0 ∧ tmpV 3 A.F = .ptr b3 0 ∧ tmpV 4 A.F = .int .i64 (i : Int)
def slI (s : List Nat) (i : Nat) : Nat := if slashAt s < i then slashAt s else s.length
theorem slash_lt {s : List Nat} {i : Nat} (hi : i ≤ s.length) : slashAt s < i ↔ ∃ j, j < i ∧ at' s j = 47 := by
  constructor
  · intro h
    refine ⟨slashAt s, h, ?_⟩
    have := List.findIdx_getElem (xs := List.range s.length) (p := fun i => decide (at' s i = 47)) (w := by rw [List.length_range]; exact Nat.lt_of_lt_of_le h hi)
    simp only [List.getElem_range, decide_eq_true_eq] at this
    exact this
  · rintro ⟨j, hj, h⟩
    rcases Nat.lt_or_ge (slashAt s) i with h1 | h1
    · exact h1
    · exfalso
      have := List.not_of_lt_findIdx (xs := List.range s.length) (p := fun i => decide (at' s i = 47)) (i := j) (by show j < slashAt s; omega)
      simp only [List.getElem_range] at this
      rw [decide_eq_true h] at this
      cases this
theorem slI_succ {s : List Nat} {i : Nat} (hi : i < s.length) (hm : ¬ isMis s i) : slI s (i + 1) = if at' s i = 47 then i else slI s i := by
  have e1 := slash_lt (s := s) (i := i) (by omega)
  have e2 := slash_lt (s := s) (i := i + 1) (by omega)
  unfold slI
  by_cases h : at' s i = 47
  · rw [if_pos h]
    have hno : ¬ slashAt s < i := fun hlt => hm (.inr ⟨h, e1.1 hlt⟩)
    have hyes : slashAt s < i + 1 := e2.2 ⟨i, by omega, h⟩
    rw [if_pos hyes]
    omega
  · rw [if_neg h]
    have hne : slashAt s ≠ i := fun e => by
      have hlt : slashAt s < i + 1 := by omega
      obtain ⟨j, hj, h47⟩ := e2.1 hlt
      have hji : j ≠ i := fun e => h (by rw [← e]; exact h47)
      have := e1.2 ⟨j, by omega, h47⟩
      omega
    by_cases h1 : slashAt s < i
    · rw [if_pos h1, if_pos (by omega)]
    · rw [if_neg h1, if_neg (by omega)]
def XMisI (S : St) (b2 b3 : Nat) (s : List Nat) (k : Nat) (A : Act') (S' : St) : Prop :=
  A.inr = false ∧ S' = S ∧ ∃ i, i + k = s.length ∧ (∀ j, j < i → ¬ isMis s j) ∧ tmpV 0 A.F = .str s ∧ tmpV 2 A.F = .ptr b2 0 ∧ tmpV 3 A.F = .ptr b3 0 ∧ tmpV 5 A.F = .int .i64 ((slI s i : Nat) : Int) ∧ tmpV 6 A.F = .int .i64 (i : Int)
def nN (s : List Nat) : Nat := if negIn s then 1 else 0
theorem nN_int (s : List Nat) : ((nN s : Nat) : Int) = if negIn s then 1 else 0 := by unfold nN; split <;> rfl
theorem nN_le (s : List Nat) : nN s ≤ slashAt s := by
  have h1 := digits_len s
  have h2 := above_len s
  unfold nN
  split
  · rename_i h; rw [if_pos h] at h1; omega
  · omega
theorem head_at0 (s : List Nat) (c : Nat) : (s.head? == some c) = decide (0 < s.length ∧ at' s 0 = c) := by
  cases s with
  | nil => simp
  | cons b t =>
    have : at' (b :: t) 0 = b := rfl
    rw [this]
    by_cases h : b = c <;> simp [h]
/-- behind the denominator -/
def XDenP (S : St) (s : List Nat) (u : AV) (A : Act') (X : St) : Prop :=
  A.inr = false ∧ Same S X ∧ X.h.get S.nx = some (.cells zeroR false 0) ∧ X.h.get (S.nx + 1) = some (.cells [.int .i64 0, .int .i64 0] false 0) ∧ S.nx + 1 < X.nx ∧ NatIs X u (numIn s) ∧ numIn s < B ^ 1024 ∧ (∃ dv, tmpV 10 A.F = dv ∧ NatIs X dv (denIn s)) ∧ denIn s < B ^ 1024 ∧
    tmpV 2 A.F = .ptr S.nx 0 ∧ tmpV 3 A.F = .ptr (S.nx + 1) 0 ∧ tmpV 5 A.F = .int .i64 ((slashAt s : Nat) : Int) ∧ tmpV 7 A.F = .int .i64 ((nN s : Nat) : Int) ∧ tmpV 8 A.F = u ∧ ratF s = if slashAt s < s.length ∧ decVal (below s) = 0 then (6, (slashAt s : Int) + 1) else (0, 0)

set_option maxRecDepth 10000 in
set_option maxHeartbeats 4000000 in
theorem xrparse_spec {S : St} {s : List Nat} (H : Has fns) (hb : Bytes s) : wpf fns (.fn 9 [] []) [.str s] S fun r S' => ∃ v, r = .tup [v, .agg [.int .i64 (ratF s).1, .int .i64 (ratF s).2]] ∧ ((ratF s).1 = 0 → RatIs S' v (mkRat (sg (negIn s) (numIn s)) (denIn s))) ∧ ((ratF s).1 ≠ 0 → v = .agg zeroR) ∧ Same S S' := by
  refine wpf_fn H.f9 (by simp) ?_
  simp only [↓stU, stD, reduceEqDiff, ↓reduceIte]
  refine wsr ?_
  refine wpo_alloc ?_
  intro S1 s1 n1 c1
  refine wpo_alloc ?_
  intro S2 s2 n2 c2
  simp only [↓stU, stD, reduceEqDiff, ↓reduceIte]
  have hS2 := s1.trans s2
  have gA : S2.h.get S.nx = some (.cells zeroR false 0) := by rw [s2.2 _ (by omega)]; exact c1
  rw [n1] at c2 n2
  refine wss ?_
  simp only [↓stU, stD, reduceEqDiff, ↓reduceIte, evQ_lenStr, lenStr_eq, n1]
  by_cases hlong : 20000 < s.length
  · refine wpc_yes (by simp only [↓stU, stD, reduceEqDiff, ↓reduceIte, decide_eq_true (show (20000 : Int) < ((s.length : Nat) : Int) by omega)]) ?_
    refine wsr ?_
    simp only [↓stU, stD, reduceEqDiff, ↓reduceIte, evQ_zr, evQ_f2, cells_int]
    refine wpo_st (b := S.nx) (by simp only [↓stU, stD, reduceEqDiff, ↓reduceIte]) (by simp only [↓stU, stD, reduceEqDiff, ↓reduceIte]; exact cells_agg _) gA rfl rfl ?_
    intro S3 s3 n3 c3
    refine wpo_st (b := S.nx + 1) (by simp only [↓stU, stD, reduceEqDiff, ↓reduceIte]) (by simp only [↓stU, stD, reduceEqDiff, ↓reduceIte]; exact cells_agg _) (by rw [s3.2 _ (by omega) (by omega)]; exact c2) rfl rfl ?_
    intro S4 s4 n4 c4
    simp only [↓stU, stD, reduceEqDiff, ↓reduceIte]
    refine wpc_ret ?_
    refine outP_ret ⟨s4.same (s3.same hS2 (Nat.le_refl _)) (by omega), by simp only [↓stU, stD, reduceEqDiff, ↓reduceIte], by simp only [↓stU, stD, reduceEqDiff, ↓reduceIte], by rw [s4.2 _ (by omega) (by omega)]; exact c3, by rw [ratF_long hlong]; exact c4, by rw [ratF_long hlong]; simp⟩
  refine wpc_non (by simp only [↓stU, stD, reduceEqDiff, ↓reduceIte, decide_eq_false (show ¬ (20000 : Int) < ((s.length : Nat) : Int) by omega)]) (wpc_skip ?_)
  try simp only [↓stU, stD, reduceEqDiff, ↓reduceIte]
  -- bytes that cannot stand in a number
  refine wpc_seq (wpc_mono (Q := fun o A' X => (o = .normal ∧ XOddI S2 S.nx (S.nx + 1) s 0 A' X) ∨ (o = .ret ∧ OutP S S.nx (S.nx + 1) s A' X)) (wpc_seq (wpc_reg ?_)) ?_)
  · simp only [↓stU, stD, reduceEqDiff, ↓reduceIte]
    refine wpc_block (wpc_loop (XOddI S2 S.nx (S.nx + 1) s) ?_ s.length _ _ ⟨rfl, rfl, 0, by omega, fun j hj => (by omega), by simp only [↓stU, stD, reduceEqDiff, ↓reduceIte], by simp only [↓stU, stD, reduceEqDiff, ↓reduceIte], by simp only [↓stU, stD, reduceEqDiff, ↓reduceIte], by simp only [↓stU, stD, reduceEqDiff, ↓reduceIte]⟩)
    rintro k ⟨F, inr⟩ X ⟨q0, hX, i, hik, hd, p0, p2, p3, p4⟩
    simp only at q0 p0 p2 p3 p4
    subst q0
    rw [hX]
    refine wss ?_
    simp only [↓stU, stD, reduceEqDiff, ↓reduceIte, p0, p4, evQ_lenStr, lenStr_eq]
    by_cases hi : i < s.length
    · refine wpc_yes (by simp only [↓stU, stD, reduceEqDiff, ↓reduceIte, decide_eq_true (show (i : Int) < ((s.length : Nat) : Int) by omega)]) (wpc_skip ?_)
      try simp only [↓stU, stD, reduceEqDiff, ↓reduceIte]
      have hix := idxStr_eq hi
      rw [show s[i]?.getD 0 = at' s i from rfl] at hix
      have w1 : IntKind.i64.wrap ((i : Int) + 1) = ((i + 1 : Nat) : Int) := by rw [wrap_i64 (by omega) (by omega)]; omega
      refine wpc_seq (wpc_block (wpc_seq (wpc_mono (Q := fun o A' X => o = .normal ∧ A'.inr = false ∧ X = S2 ∧ tmpV 0 A'.F = .str s ∧ tmpV 2 A'.F = .ptr S.nx 0 ∧ tmpV 3 A'.F = .ptr (S.nx + 1) 0 ∧ tmpV 4 A'.F = .int .i64 (i : Int) ∧ tmpV 43 A'.F = .bool (decide (isOdd (at' s i)))) (wpc_reg ?_) ?_)))
      · have hd' : decide (isOdd (at' s i)) = decide (((at' s i < 48 ∨ 57 < at' s i) ∧ at' s i ≠ 45) ∧ at' s i ≠ 47) := by rw [Bool.eq_iff_iff, decide_eq_true_iff, decide_eq_true_iff]; exact odd_iff _
        rw [hd']
        generalize at' s i = c at *
        by_cases hc1 : c < 48
        · by_cases h45 : c = 45
          · simp only [↓stU, stD, reduceEqDiff, ↓reduceIte, p0, p2, p3, p4, evQ_idxStr, natOf_cast, hix, decide_eq_true (show (c : Int) < 48 by omega), decide_eq_false (show ¬ (c : Int) ≠ 45 by omega)]
            simp [h45]
          · by_cases h47 : c = 47
            · simp only [↓stU, stD, reduceEqDiff, ↓reduceIte, p0, p2, p3, p4, evQ_idxStr, natOf_cast, hix, decide_eq_true (show (c : Int) < 48 by omega), decide_eq_true (show (c : Int) ≠ 45 by omega), decide_eq_false (show ¬ (c : Int) ≠ 47 by omega)]
              simp [h47]
            · simp only [↓stU, stD, reduceEqDiff, ↓reduceIte, p0, p2, p3, p4, evQ_idxStr, natOf_cast, hix, decide_eq_true (show (c : Int) < 48 by omega), decide_eq_true (show (c : Int) ≠ 45 by omega), decide_eq_true (show (c : Int) ≠ 47 by omega)]
              simp [h47, h45, hc1]
        · by_cases hc2 : 57 < c
          · simp only [↓stU, stD, reduceEqDiff, ↓reduceIte, p0, p2, p3, p4, evQ_idxStr, natOf_cast, hix, decide_eq_false (show ¬ (c : Int) < 48 by omega), decide_eq_true (show (57 : Int) < (c : Int) by omega), decide_eq_true (show (c : Int) ≠ 45 by omega), decide_eq_true (show (c : Int) ≠ 47 by omega)]
            simp [hc2]; omega
          · simp only [↓stU, stD, reduceEqDiff, ↓reduceIte, p0, p2, p3, p4, evQ_idxStr, natOf_cast, hix, decide_eq_false (show ¬ (c : Int) < 48 by omega), decide_eq_false (show ¬ (57 : Int) < (c : Int) by omega)]
            simp [hc1, hc2]
      clear p0 p2 p3 p4
      rintro o ⟨F, inr⟩ X ⟨rfl, q0, hX, p0, p2, p3, p4, p43⟩
      simp only at q0 p0 p2 p3 p4 p43
      subst q0
      rw [hX]
      try simp only [↓stU, stD, reduceEqDiff, ↓reduceIte]
      by_cases hc : isOdd (at' s i)
      · have ho : oddAt s = i := firstP_eq hi hd hc
        have hlt : oddAt s < s.length := by omega
        have hF : ratF s = (11, (i : Int)) := by unfold ratF; rw [if_neg hlong, if_pos hlt, ho]
        refine wpc_yes (by simp only [↓stU, stD, reduceEqDiff, ↓reduceIte, p43, decide_eq_true hc]) ?_
        refine wsr ?_
        simp only [↓stU, stD, reduceEqDiff, ↓reduceIte, p4, evQ_zr, evQ_f2, cells_int]
        refine wpo_st (b := S.nx) (by simp only [↓stU, stD, reduceEqDiff, ↓reduceIte, p2]) (by simp only [↓stU, stD, reduceEqDiff, ↓reduceIte]; exact cells_agg _) gA rfl rfl ?_
        intro S3 s3 n3 c3
        refine wpo_st (b := S.nx + 1) (by simp only [↓stU, stD, reduceEqDiff, ↓reduceIte, p3]) (by simp only [↓stU, stD, reduceEqDiff, ↓reduceIte]; exact cells_agg _) (by rw [s3.2 _ (by omega) (by omega)]; exact c2) rfl rfl ?_
        intro S4 s4 n4 c4
        simp only [↓stU, stD, reduceEqDiff, ↓reduceIte]
        refine wpc_ret ?_
        exact .inr ⟨rfl, s4.same (s3.same hS2 (Nat.le_refl _)) (by omega), by simp only [↓stU, stD, reduceEqDiff, ↓reduceIte, p2], by simp only [↓stU, stD, reduceEqDiff, ↓reduceIte, p3], by rw [s4.2 _ (by omega) (by omega)]; exact c3, by rw [hF]; exact c4, by rw [hF]; simp⟩
      · refine wpc_non (by simp only [↓stU, stD, reduceEqDiff, ↓reduceIte, p43, decide_eq_false hc]) (wpc_skip ?_)
        try simp only [↓stU, stD, reduceEqDiff, ↓reduceIte]
        refine wpc_reg ?_
        simp only [↓stU, stD, reduceEqDiff, ↓reduceIte, p4, w1]
        refine ⟨k - 1, by omega, rfl, rfl, i + 1, by omega, fun j hj => ?_, by simp only [↓stU, stD, reduceEqDiff, ↓reduceIte, p0], by simp only [↓stU, stD, reduceEqDiff, ↓reduceIte, p2], by simp only [↓stU, stD, reduceEqDiff, ↓reduceIte, p3], by simp only [↓stU, stD, reduceEqDiff, ↓reduceIte]⟩
        rcases Nat.lt_or_ge j i with h1 | h1
        · exact hd j h1
        · rw [show j = i by omega]; exact hc
    · refine wpc_non (by simp only [↓stU, stD, reduceEqDiff, ↓reduceIte, decide_eq_false (show ¬ (i : Int) < ((s.length : Nat) : Int) by omega)]) (wpc_exit ?_)
      simp only [↓stU, stD, reduceEqDiff, ↓reduceIte]
      exact .inl ⟨rfl, rfl, i, by omega, hd, by simp only [↓stU, stD, reduceEqDiff, ↓reduceIte, p0], by simp only [↓stU, stD, reduceEqDiff, ↓reduceIte, p2], by simp only [↓stU, stD, reduceEqDiff, ↓reduceIte, p3], by simp only [↓stU, stD, reduceEqDiff, ↓reduceIte, p4]⟩
  rintro o ⟨F, inr⟩ X (⟨rfl, q0, hX, i, hik, hodd, p0, p2, p3, p4⟩ | ⟨rfl, h⟩)
  rotate_left
  · exact outP_ret h
  simp only at q0 p0 p2 p3
  subst q0
  rw [hX]
  have hik : i = s.length := by omega
  subst hik
  have hodd := odd_not hodd
  clear p4
  try simp only [↓stU, stD, reduceEqDiff, ↓reduceIte]
  refine wsr ?_
  simp only [↓stU, stD, reduceEqDiff, ↓reduceIte, p0, evQ_lenStr, lenStr_eq]
  -- a minus or a stroke at a wrong place
  refine wpc_seq (wpc_mono (Q := fun o A' X => (o = .normal ∧ XMisI S2 S.nx (S.nx + 1) s 0 A' X) ∨ (o = .ret ∧ OutP S S.nx (S.nx + 1) s A' X)) (wpc_seq (wpc_reg ?_)) ?_)
  · simp only [↓stU, stD, reduceEqDiff, ↓reduceIte]
    refine wpc_block (wpc_loop (XMisI S2 S.nx (S.nx + 1) s) ?_ s.length _ _ ⟨rfl, rfl, 0, by omega, fun j hj => (by omega), by simp only [↓stU, stD, reduceEqDiff, ↓reduceIte, p0], by simp only [↓stU, stD, reduceEqDiff, ↓reduceIte, p2], by simp only [↓stU, stD, reduceEqDiff, ↓reduceIte, p3], by simp only [↓stU, stD, reduceEqDiff, ↓reduceIte]; unfold slI; rw [if_neg (by omega)], by simp only [↓stU, stD, reduceEqDiff, ↓reduceIte]⟩)
    clear p0 p2 p3
    rintro k ⟨F, inr⟩ X ⟨q0, hX, i, hik, hm, p0, p2, p3, p5, p6⟩
    simp only at q0 p0 p2 p3 p5 p6
    subst q0
    rw [hX]
    refine wss ?_
    simp only [↓stU, stD, reduceEqDiff, ↓reduceIte, p0, p6, evQ_lenStr, lenStr_eq]
    by_cases hi : i < s.length
    · refine wpc_yes (by simp only [↓stU, stD, reduceEqDiff, ↓reduceIte, decide_eq_true (show (i : Int) < ((s.length : Nat) : Int) by omega)]) (wpc_skip ?_)
      try simp only [↓stU, stD, reduceEqDiff, ↓reduceIte]
      have hix := idxStr_eq hi
      rw [show s[i]?.getD 0 = at' s i from rfl] at hix
      have w1 : IntKind.i64.wrap ((i : Int) + 1) = ((i + 1 : Nat) : Int) := by rw [wrap_i64 (by omega) (by omega)]; omega
      have hsl := slash_lt (s := s) (i := i) (by omega)
      have hsI : slI s i < s.length ↔ ∃ j, j < i ∧ at' s j = 47 := by
        unfold slI
        rw [← hsl]
        split <;> omega
      have hnext := slI_succ hi
      refine wpc_seq (wpc_block (wpc_seq (wpc_seq (wpc_mono (Q := fun o A' X => o = .normal ∧ A'.inr = false ∧ X = S2 ∧ tmpV 0 A'.F = .str s ∧ tmpV 2 A'.F = .ptr S.nx 0 ∧ tmpV 3 A'.F = .ptr (S.nx + 1) 0 ∧ tmpV 5 A'.F = .int .i64 ((slI s i : Nat) : Int) ∧ tmpV 6 A'.F = .int .i64 (i : Int) ∧ tmpV 74 A'.F = .bool (decide (isMis s i))) (wpc_reg ?_) ?_))))
      · have hmis : isMis s i ↔ (at' s i = 45 ∧ 0 < i) ∨ (at' s i = 47 ∧ slI s i < s.length) := by
          unfold isMis
          rw [← hsI]
        have hd : decide (isMis s i) = decide ((at' s i = 45 ∧ 0 < i) ∨ (at' s i = 47 ∧ slI s i < s.length)) := by rw [Bool.eq_iff_iff, decide_eq_true_iff, decide_eq_true_iff]; exact hmis
        rw [hd]
        generalize slI s i = t at *
        generalize at' s i = c at *
        by_cases h45 : c = 45
        · by_cases hi0 : 0 < i
          · simp only [↓stU, stD, reduceEqDiff, ↓reduceIte, p0, p2, p3, p5, p6, evQ_idxStr, natOf_cast, hix, decide_eq_true (show ((c : Nat) : Int) = 45 by omega), decide_eq_true (show (0 : Int) < (i : Int) by omega)]
            simp [hi0, h45]
          · simp only [↓stU, stD, reduceEqDiff, ↓reduceIte, p0, p2, p3, p5, p6, evQ_idxStr, natOf_cast, hix, decide_eq_true (show ((c : Nat) : Int) = 45 by omega), decide_eq_false (show ¬ (0 : Int) < (i : Int) by omega), decide_eq_false (show ¬ ((c : Nat) : Int) = 47 by omega)]
            simp [hi0, h45]
        · by_cases h47 : c = 47
          · by_cases ht : t < s.length
            · simp only [↓stU, stD, reduceEqDiff, ↓reduceIte, p0, p2, p3, p5, p6, evQ_idxStr, evQ_lenStr, lenStr_eq, natOf_cast, hix, decide_eq_false (show ¬ ((c : Nat) : Int) = 45 by omega), decide_eq_true (show ((c : Nat) : Int) = 47 by omega), decide_eq_true (show (t : Int) < ((s.length : Nat) : Int) by omega)]
              simp [ht, h47, h45]
            · simp only [↓stU, stD, reduceEqDiff, ↓reduceIte, p0, p2, p3, p5, p6, evQ_idxStr, evQ_lenStr, lenStr_eq, natOf_cast, hix, decide_eq_false (show ¬ ((c : Nat) : Int) = 45 by omega), decide_eq_true (show ((c : Nat) : Int) = 47 by omega), decide_eq_false (show ¬ (t : Int) < ((s.length : Nat) : Int) by omega)]
              simp [ht, h47, h45]
          · simp only [↓stU, stD, reduceEqDiff, ↓reduceIte, p0, p2, p3, p5, p6, evQ_idxStr, natOf_cast, hix, decide_eq_false (show ¬ ((c : Nat) : Int) = 45 by omega), decide_eq_false (show ¬ ((c : Nat) : Int) = 47 by omega)]
            simp [h45, h47]
      clear p0 p2 p3 p5 p6
      rintro o ⟨F, inr⟩ X ⟨rfl, q0, hX, p0, p2, p3, p5, p6, p74⟩
      simp only at q0 p0 p2 p3 p5 p6 p74
      subst q0
      rw [hX]
      try simp only [↓stU, stD, reduceEqDiff, ↓reduceIte]
      by_cases h : isMis s i
      · have ho : misAt s = i := firstP_eq hi hm h
        have hlt : misAt s < s.length := by omega
        have hF : ratF s = (11, (i : Int)) := by unfold ratF; rw [if_neg hlong, if_neg hodd, if_pos hlt, ho]
        refine wpc_yes (by simp only [↓stU, stD, reduceEqDiff, ↓reduceIte, p74, decide_eq_true h]) ?_
        refine wsr ?_
        simp only [↓stU, stD, reduceEqDiff, ↓reduceIte, p6, evQ_zr, evQ_f2, cells_int]
        refine wpo_st (b := S.nx) (by simp only [↓stU, stD, reduceEqDiff, ↓reduceIte, p2]) (by simp only [↓stU, stD, reduceEqDiff, ↓reduceIte]; exact cells_agg _) gA rfl rfl ?_
        intro S3 s3 n3 c3
        refine wpo_st (b := S.nx + 1) (by simp only [↓stU, stD, reduceEqDiff, ↓reduceIte, p3]) (by simp only [↓stU, stD, reduceEqDiff, ↓reduceIte]; exact cells_agg _) (by rw [s3.2 _ (by omega) (by omega)]; exact c2) rfl rfl ?_
        intro S4 s4 n4 c4
        simp only [↓stU, stD, reduceEqDiff, ↓reduceIte]
        refine wpc_ret ?_
        exact .inr ⟨rfl, s4.same (s3.same hS2 (Nat.le_refl _)) (by omega), by simp only [↓stU, stD, reduceEqDiff, ↓reduceIte, p2], by simp only [↓stU, stD, reduceEqDiff, ↓reduceIte, p3], by rw [s4.2 _ (by omega) (by omega)]; exact c3, by rw [hF]; exact c4, by rw [hF]; simp⟩
      · refine wpc_non (by simp only [↓stU, stD, reduceEqDiff, ↓reduceIte, p74, decide_eq_false h]) (wpc_skip ?_)
        try simp only [↓stU, stD, reduceEqDiff, ↓reduceIte]
        have hnext := hnext h
        refine wsr ?_
        simp only [↓stU, stD, reduceEqDiff, ↓reduceIte, p0, p6, evQ_idxStr, natOf_cast, hix]
        have fin : ∀ G : Fr, tmpV 0 G = .str s → tmpV 2 G = .ptr S.nx 0 → tmpV 3 G = .ptr (S.nx + 1) 0 → tmpV 5 G = .int .i64 ((slI s (i + 1) : Nat) : Int) → tmpV 6 G = .int .i64 (i : Int) → wpo fns [⟨(some 53),(.q (.mv (.t 6))),none,0⟩, ⟨(some 54),(.q (.bin .add (.p .int) (.t 53) (.c (.int .i64 (.ofNat 1))))),none,0⟩, ⟨(some 6),(.q (.mv (.t 54))),none,0⟩] G S2 fun F' S' => ∃ k', k' < k ∧ XMisI S2 S.nx (S.nx + 1) s k' ⟨F', false⟩ S' := fun G g0 g2 g3 g5 g6 => by
          simp only [↓stU, stD, reduceEqDiff, ↓reduceIte, g6, w1]
          refine ⟨k - 1, by omega, rfl, rfl, i + 1, by omega, fun j hj => ?_, by simp only [↓stU, stD, reduceEqDiff, ↓reduceIte, g0], by simp only [↓stU, stD, reduceEqDiff, ↓reduceIte, g2], by simp only [↓stU, stD, reduceEqDiff, ↓reduceIte, g3], by simp only [↓stU, stD, reduceEqDiff, ↓reduceIte, g5], by simp only [↓stU, stD, reduceEqDiff, ↓reduceIte]⟩
          rcases Nat.lt_or_ge j i with h1 | h1
          · exact hm j h1
          · rw [show j = i by omega]; exact h
        by_cases h47 : at' s i = 47
        · refine wpc_yes (by simp only [↓stU, stD, reduceEqDiff, ↓reduceIte, decide_eq_true (show ((at' s i : Nat) : Int) = 47 by omega)]) ?_
          refine wpc_reg ?_
          simp only [↓stU, stD, reduceEqDiff, ↓reduceIte, p6]
          refine wpc_reg ?_
          refine wpo_mono (fin _ (by simp only [↓stU, stD, reduceEqDiff, ↓reduceIte, p0]) (by simp only [↓stU, stD, reduceEqDiff, ↓reduceIte, p2]) (by simp only [↓stU, stD, reduceEqDiff, ↓reduceIte, p3]) (by simp only [↓stU, stD, reduceEqDiff, ↓reduceIte]; rw [hnext, if_pos h47]) (by simp only [↓stU, stD, reduceEqDiff, ↓reduceIte, p6])) fun F' S' hh => hh
        · refine wpc_non (by simp only [↓stU, stD, reduceEqDiff, ↓reduceIte, decide_eq_false (show ¬ ((at' s i : Nat) : Int) = 47 by omega)]) (wpc_skip ?_)
          try simp only [↓stU, stD, reduceEqDiff, ↓reduceIte]
          refine wpc_reg ?_
          refine wpo_mono (fin _ (by simp only [↓stU, stD, reduceEqDiff, ↓reduceIte, p0]) (by simp only [↓stU, stD, reduceEqDiff, ↓reduceIte, p2]) (by simp only [↓stU, stD, reduceEqDiff, ↓reduceIte, p3]) (by simp only [↓stU, stD, reduceEqDiff, ↓reduceIte, p5]; rw [hnext, if_neg h47]) (by simp only [↓stU, stD, reduceEqDiff, ↓reduceIte, p6])) fun F' S' hh => hh
    · refine wpc_non (by simp only [↓stU, stD, reduceEqDiff, ↓reduceIte, decide_eq_false (show ¬ (i : Int) < ((s.length : Nat) : Int) by omega)]) (wpc_exit ?_)
      simp only [↓stU, stD, reduceEqDiff, ↓reduceIte]
      exact .inl ⟨rfl, rfl, i, by omega, hm, by simp only [↓stU, stD, reduceEqDiff, ↓reduceIte, p0], by simp only [↓stU, stD, reduceEqDiff, ↓reduceIte, p2], by simp only [↓stU, stD, reduceEqDiff, ↓reduceIte, p3], by simp only [↓stU, stD, reduceEqDiff, ↓reduceIte, p5], by simp only [↓stU, stD, reduceEqDiff, ↓reduceIte, p6]⟩
  clear p0 p2 p3
  rintro o ⟨F, inr⟩ X (⟨rfl, q0, hX, i, hik, hmis, p0, p2, p3, p5, p6⟩ | ⟨rfl, h⟩)
  rotate_left
  · exact outP_ret h
  simp only at q0 p0 p2 p3 p5
  subst q0
  rw [hX]
  have hik : i = s.length := by omega
  subst hik
  have hmis := mis_not hmis
  have hsl := slash_le s
  have e5 : slI s s.length = slashAt s := by unfold slI; split <;> omega
  rw [e5] at p5
  have hrest : ratF s = ratG s := by
    unfold ratF ratG
    rw [if_neg hlong, if_neg hodd, if_neg hmis]
  clear p6
  try simp only [↓stU, stD, reduceEqDiff, ↓reduceIte]
  refine wsr ?_
  simp only [↓stU, stD, reduceEqDiff, ↓reduceIte]
  refine wpc_seq (wpc_mono (Q := fun o A' X => o = .normal ∧ A'.inr = false ∧ X = S2 ∧ tmpV 0 A'.F = .str s ∧ tmpV 2 A'.F = .ptr S.nx 0 ∧ tmpV 3 A'.F = .ptr (S.nx + 1) 0 ∧ tmpV 5 A'.F = .int .i64 ((slashAt s : Nat) : Int) ∧ tmpV 7 A'.F = .int .i64 ((nN s : Nat) : Int)) (wpc_seq (wpc_mono (Q := fun o A' X => o = .normal ∧ A'.inr = false ∧ X = S2 ∧ tmpV 0 A'.F = .str s ∧ tmpV 2 A'.F = .ptr S.nx 0 ∧ tmpV 3 A'.F = .ptr (S.nx + 1) 0 ∧ tmpV 5 A'.F = .int .i64 ((slashAt s : Nat) : Int) ∧ tmpV 7 A'.F = .int .i64 0 ∧ tmpV 90 A'.F = .bool (negIn s)) (wpc_reg ?_) ?_)) ?_)
  · rw [negIn_head, head_at0]
    by_cases h0 : 0 < s.length
    · have hix := idxStr_eq h0
      rw [show s[0]?.getD 0 = at' s 0 from rfl] at hix
      by_cases h45 : at' s 0 = 45
      · simp only [↓stU, stD, reduceEqDiff, ↓reduceIte, p0, p2, p3, p5, evQ_lenStr, lenStr_eq, evQ_idxStr, nat0, hix, decide_eq_true (show (0 : Int) < ((s.length : Nat) : Int) by omega), decide_eq_true (show ((at' s 0 : Nat) : Int) = 45 by omega)]
        simp [h0, h45]
      · simp only [↓stU, stD, reduceEqDiff, ↓reduceIte, p0, p2, p3, p5, evQ_lenStr, lenStr_eq, evQ_idxStr, nat0, hix, decide_eq_true (show (0 : Int) < ((s.length : Nat) : Int) by omega), decide_eq_false (show ¬ ((at' s 0 : Nat) : Int) = 45 by omega)]
        simp [h45]
    · simp only [↓stU, stD, reduceEqDiff, ↓reduceIte, p0, p2, p3, p5, evQ_lenStr, lenStr_eq, decide_eq_false (show ¬ (0 : Int) < ((s.length : Nat) : Int) by omega)]
      simp [h0]
  · clear p0 p2 p3 p5
    rintro o ⟨F, inr⟩ X ⟨rfl, q0, hX, p0, p2, p3, p5, p7, p90⟩
    simp only at q0 p0 p2 p3 p5 p7 p90
    subst q0
    rw [hX]
    try simp only [↓stU, stD, reduceEqDiff, ↓reduceIte]
    cases hneg : negIn s with
    | true =>
      refine wpc_yes (by simp only [↓stU, stD, reduceEqDiff, ↓reduceIte, p90, hneg]) ?_
      refine wpc_reg ?_
      simp only [↓stU, stD, reduceEqDiff, ↓reduceIte, p0, p2, p3, p5]
      unfold nN
      rw [hneg]
      rfl
    | false =>
      refine wpc_non (by simp only [↓stU, stD, reduceEqDiff, ↓reduceIte, p90, hneg]) (wpc_skip ?_)
      simp only [↓stU, stD, reduceEqDiff, ↓reduceIte, p0, p2, p3, p5, p7]
      unfold nN
      rw [hneg]
      rfl
  clear p0 p2 p3 p5
  rintro o ⟨F, inr⟩ X ⟨rfl, q0, hX, p0, p2, p3, p5, p7⟩
  simp only at q0 p0 p2 p3 p5 p7
  subst q0
  rw [hX]
  have hnN := nN_le s
  have e95 : ∀ F : Fr, tmpV 93 F = .int .i64 ((nN s : Nat) : Int) → tmpV 94 F = .int .i64 ((slashAt s : Nat) : Int) → slcV .str (.str s) (some (.t 93)) (some (.t 94)) none F = some (.str (digitsIn s)) := fun F h1 h2 => str_slc (i := nN s) (j := slashAt s) (by rw [val_t, h1, natOf_cast]) (by rw [val_t, h2, natOf_cast]) hnN hsl
  try simp only [↓stU, stD, reduceEqDiff, ↓reduceIte]
  refine wsr ?_
  simp only [↓stU, stD, reduceEqDiff, ↓reduceIte, p0, p5, p7, e95]
  refine wpo_call ?_
  simp only [↓stU, stD, reduceEqDiff, ↓reduceIte]
  refine wpf_mono (xparse_spec H) ?_
  rintro _ S7 ⟨u, rfl, hu0, hu1, hS7⟩
  simp only [↓stU, stD, reduceEqDiff, ↓reduceIte, ex0, ex1]
  refine wpo_alloc ?_
  intro S8 s8 n8 c8
  simp only [↓stU, stD, reduceEqDiff, ↓reduceIte]
  refine wpo_st (b := S7.nx) (by simp only [↓stU, stD, reduceEqDiff, ↓reduceIte]) (by simp only [↓stU, stD, reduceEqDiff, ↓reduceIte]; exact cells_agg _) c8 rfl rfl ?_
  intro S9 s9 n9 c9
  simp only [↓stU, stD, reduceEqDiff, ↓reduceIte]
  have hS29 : Same S2 S9 := s9.same (hS7.trans s8) hS7.1
  have hS9 := hS2.trans hS29
  have le27 := hS7.1
  have gA9 : S9.h.get S.nx = some (.cells zeroR false 0) := by rw [hS29.2 _ (by omega)]; exact gA
  have gB9 : S9.h.get (S.nx + 1) = some (.cells [.int .i64 0, .int .i64 0] false 0) := by rw [hS29.2 _ (by omega)]; exact c2
  have h79 : S7.nx < S9.nx := by omega
  have hS79 : Same S7 S9 := s9.same s8 (Nat.le_refl _)
  obtain ⟨f1, f2⟩ := natF_snd (digitsIn s)
  have hnI := nN_int s
  refine wss ?_
  simp only [↓stU, stD, reduceEqDiff, ↓reduceIte, evQ_faddr, faddr_ptr, ld2_0 c9]
  by_cases hn : (natF (digitsIn s)).1 = 0
  rotate_left
  · refine wpc_yes (by simp only [↓stU, stD, reduceEqDiff, ↓reduceIte, decide_eq_true hn]) ?_
    have w2 : IntKind.i64.wrap (((nN s : Nat) : Int) + (natF (digitsIn s)).2) = (natF (digitsIn s)).2 + (if negIn s then 1 else 0) := by rw [wrap_i64 (by omega) (by omega), hnI, Int.add_comm]
    have hres : ratF s = ((natF (digitsIn s)).1, (natF (digitsIn s)).2 + (if negIn s then 1 else 0)) := by rw [hrest]; unfold ratG; rw [if_pos hn]
    have hw : ¬ (S7.nx = S.nx ∨ S7.nx = S.nx + 1) := by omega
    refine wpc_seq (wpc_drd1 (fun b => b = S.nx ∨ b = S.nx + 1) ?_)
    intro S10 hS10
    simp only [↓stU, stD, reduceEqDiff, ↓reduceIte, ↓stV, stW, Nat.reduceAdd, evQ_zr, isLoad_build, evQ_faddr, faddr_ptr, isLoad_faddr, ld2_0 c9, ld2_1 c9, p7, w2, evQ_f2, cells_int, h79, hw, not_false_eq_true]
    refine runD_st0 rfl (by simp only [↓stU, stD, reduceEqDiff, ↓reduceIte, ↓stV, stW, Nat.reduceAdd, p2]) (by simp only [↓stU, stD, reduceEqDiff, ↓reduceIte, ↓stV, stW, Nat.reduceAdd]; exact cells_agg _) (by rw [hS10.2 _ (by omega)]; exact gA9) rfl rfl (.inl rfl) ?_
    intro S11 s11 n11 c11
    have l10 := hS10.1
    refine runD_st0 (show Nat.testBit 511 8 = true by decide) (by simp only [↓stU, stD, reduceEqDiff, ↓reduceIte, ↓stV, stW, Nat.reduceAdd, p3]) (by simp only [↓stU, stD, reduceEqDiff, ↓reduceIte, ↓stV, stW, Nat.reduceAdd]; exact cells_agg _) (by rw [s11.2 _ (by omega) (by omega), hS10.2 _ (by omega)]; exact gB9) rfl rfl (.inr rfl) ?_
    intro S12 s12 n12 c12
    simp only [↓stU, stD, reduceEqDiff, ↓reduceIte, ↓stV, stW, Nat.reduceAdd]
    refine wpc_ret ?_
    exact outP_ret ⟨s12.same (s11.same (hS9.trans hS10) (Nat.le_refl _)) (by omega), by simp only [↓stU, stD, reduceEqDiff, ↓reduceIte, ↓stV, stW, Nat.reduceAdd, p2], by simp only [↓stU, stD, reduceEqDiff, ↓reduceIte, ↓stV, stW, Nat.reduceAdd, p3], by rw [s12.2 _ (by omega) (by omega)]; exact c11, by rw [hres]; exact c12, by rw [hres]; exact hn⟩
  refine wpc_non (by simp only [↓stU, stD, reduceEqDiff, ↓reduceIte, decide_eq_false (show ¬ ¬ (natF (digitsIn s)).1 = 0 from fun h => h hn)]) (wpc_skip ?_)
  try simp only [↓stU, stD, reduceEqDiff, ↓reduceIte]
  have hu : NatIs S9 u (numIn s) := (hu0 hn).same hS79
  have hub : numIn s < B ^ 1024 := natF_zero hn
  clear hu0 hu1 f1 f2
  refine wsr ?_
  simp only [↓stU, stD, reduceEqDiff, ↓reduceIte]
  refine wpo_al (evA_one (k := .u32) (n := 1) rfl) ?_
  intro S10 hS10 n10 c10
  simp only [↓stU, stD, reduceEqDiff, ↓reduceIte]
  have hS10' := hS9.trans hS10
  have ho := nat_one1 (by omega) c10
  have gA10 : S10.h.get S.nx = some (.cells zeroR false 0) := by rw [hS10.2 _ (by omega)]; exact gA9
  have gB10 : S10.h.get (S.nx + 1) = some (.cells [.int .i64 0, .int .i64 0] false 0) := by rw [hS10.2 _ (by omega)]; exact gB9
  have d10 : S10.h.get S7.nx = some (.cells [.int .i64 (natF (digitsIn s)).1, .int .i64 (natF (digitsIn s)).2] false 0) := by rw [hS10.2 _ h79]; exact c9
  refine wpc_seq (wpc_mono (Q := fun o A' X => (o = .normal ∧ XDenP S s u A' X) ∨ (o = .ret ∧ OutP S S.nx (S.nx + 1) s A' X)) (wpc_seq (wpc_reg ?_)) ?_)
  · simp only [↓stU, stD, reduceEqDiff, ↓reduceIte, p0, p5, evQ_lenStr, lenStr_eq]
    by_cases hd : slashAt s < s.length
    · refine wpc_yes (by simp only [↓stU, stD, reduceEqDiff, ↓reduceIte, decide_eq_true (show ((slashAt s : Nat) : Int) < ((s.length : Nat) : Int) by omega)]) ?_
      have w1 : IntKind.i64.wrap (((slashAt s : Nat) : Int) + 1) = ((slashAt s + 1 : Nat) : Int) := by rw [wrap_i64 (by omega) (by omega)]; omega
      have e119 : ∀ F : Fr, tmpV 118 F = .int .i64 ((slashAt s + 1 : Nat) : Int) → slcV .str (.str s) (some (.t 118)) none none F = some (.str (below s)) := fun F h => slc_lo (i := slashAt s + 1) (by rw [val_t, h, natOf_cast]) (by omega)
      refine wsr ?_
      simp only [↓stU, stD, reduceEqDiff, ↓reduceIte, p0, p5, w1, e119]
      refine wpo_call ?_
      simp only [↓stU, stD, reduceEqDiff, ↓reduceIte]
      refine wpf_mono (xparse_spec H) ?_
      rintro _ S11 ⟨dv, rfl, hd0, hd1, hS11⟩
      simp only [↓stU, stD, reduceEqDiff, ↓reduceIte, ex0, ex1]
      have le1011 := hS11.1
      refine wpo_st (b := S7.nx) (by simp only [↓stU, stD, reduceEqDiff, ↓reduceIte]) (by simp only [↓stU, stD, reduceEqDiff, ↓reduceIte]; exact cells_agg _) (by rw [hS11.2 _ (by omega)]; exact d10) rfl rfl ?_
      intro S12 s12 n12 c12
      simp only [↓stU, stD, reduceEqDiff, ↓reduceIte]
      have hS12 : Same S S12 := s12.same (hS10'.trans hS11) (by omega)
      have gA12 : S12.h.get S.nx = some (.cells zeroR false 0) := by rw [s12.2 _ (by omega) (by omega), hS11.2 _ (by omega)]; exact gA10
      have gB12 : S12.h.get (S.nx + 1) = some (.cells [.int .i64 0, .int .i64 0] false 0) := by rw [s12.2 _ (by omega) (by omega), hS11.2 _ (by omega)]; exact gB10
      obtain ⟨f1, f2⟩ := natF_snd (below s)
      refine wsr ?_
      simp only [↓stU, stD, reduceEqDiff, ↓reduceIte, evQ_faddr, faddr_ptr, ld2_0 c12]
      by_cases hm : (natF (below s)).1 = 0
      rotate_left
      · refine wpc_yes (by simp only [↓stU, stD, reduceEqDiff, ↓reduceIte, decide_eq_true hm]) ?_
        have w2 : IntKind.i64.wrap (((slashAt s + 1 : Nat) : Int) + (natF (below s)).2) = (natF (below s)).2 + (((slashAt s : Nat) : Int) + 1) := by rw [wrap_i64 (by omega) (by omega)]; omega
        have hres : ratF s = ((natF (below s)).1, (natF (below s)).2 + ((slashAt s : Int) + 1)) := by rw [hrest]; unfold ratG; rw [if_neg (fun h => h hn), if_pos ⟨hd, hm⟩]
        have hw : ¬ (S7.nx = S.nx ∨ S7.nx = S.nx + 1) := by omega
        have h712 : S7.nx < S12.nx := by omega
        refine wpc_seq (wpc_drd1 (fun b => b = S.nx ∨ b = S.nx + 1) ?_)
        intro S13 hS13
        simp only [↓stU, stD, reduceEqDiff, ↓reduceIte, ↓stV, stW, Nat.reduceAdd, evQ_zr, isLoad_build, evQ_faddr, faddr_ptr, isLoad_faddr, ld2_0 c12, ld2_1 c12, p5, w1, w2, evQ_f2, cells_int, h712, hw, not_false_eq_true]
        refine runD_st0 rfl (by simp only [↓stU, stD, reduceEqDiff, ↓reduceIte, ↓stV, stW, Nat.reduceAdd, p2]) (by simp only [↓stU, stD, reduceEqDiff, ↓reduceIte, ↓stV, stW, Nat.reduceAdd]; exact cells_agg _) (by rw [hS13.2 _ (by omega)]; exact gA12) rfl rfl (.inl rfl) ?_
        intro S14 s14 n14 c14
        have l13 := hS13.1
        refine runD_st0 (show Nat.testBit 1023 9 = true by decide) (by simp only [↓stU, stD, reduceEqDiff, ↓reduceIte, ↓stV, stW, Nat.reduceAdd, p3]) (by simp only [↓stU, stD, reduceEqDiff, ↓reduceIte, ↓stV, stW, Nat.reduceAdd]; exact cells_agg _) (by rw [s14.2 _ (by omega) (by omega), hS13.2 _ (by omega)]; exact gB12) rfl rfl (.inr rfl) ?_
        intro S15 s15 n15 c15
        simp only [↓stU, stD, reduceEqDiff, ↓reduceIte, ↓stV, stW, Nat.reduceAdd]
        refine wpc_ret ?_
        exact .inr ⟨rfl, s15.same (s14.same (hS12.trans hS13) (Nat.le_refl _)) (by omega), by simp only [↓stU, stD, reduceEqDiff, ↓reduceIte, ↓stV, stW, Nat.reduceAdd, p2], by simp only [↓stU, stD, reduceEqDiff, ↓reduceIte, ↓stV, stW, Nat.reduceAdd, p3], by rw [s15.2 _ (by omega) (by omega)]; exact c14, by rw [hres]; exact c15, by rw [hres]; exact hm⟩
      refine wpc_non (by simp only [↓stU, stD, reduceEqDiff, ↓reduceIte, decide_eq_false (show ¬ ¬ (natF (below s)).1 = 0 from fun h => h hm)]) (wpc_skip ?_)
      have hden : denIn s = decVal (below s) := by unfold denIn; rw [if_pos hd]
      have hu12 : NatIs S12 u (numIn s) := (((hu.same hS10).same hS11)).stU (by rw [hS11.2 _ (by omega)]; exact d10) rfl s12 c12
      have hd12 : NatIs S12 dv (denIn s) := by rw [hden]; exact (hd0 hm).stU (by rw [hS11.2 _ (by omega)]; exact d10) rfl s12 c12
      refine .inl ⟨rfl, rfl, hS12, gA12, gB12, by omega, hu12, hub, ⟨dv, by simp only [↓stU, stD, reduceEqDiff, ↓reduceIte], hd12⟩, by rw [hden]; exact natF_zero hm, by simp only [↓stU, stD, reduceEqDiff, ↓reduceIte, p2], by simp only [↓stU, stD, reduceEqDiff, ↓reduceIte, p3], by simp only [↓stU, stD, reduceEqDiff, ↓reduceIte, p5], by simp only [↓stU, stD, reduceEqDiff, ↓reduceIte, p7], by simp only [↓stU, stD, reduceEqDiff, ↓reduceIte], ?_⟩
      rw [hrest]; unfold ratG; rw [if_neg (fun h => h hn), if_neg (fun h => h.2 hm)]
    · refine wpc_non (by simp only [↓stU, stD, reduceEqDiff, ↓reduceIte, decide_eq_false (show ¬ ((slashAt s : Nat) : Int) < ((s.length : Nat) : Int) by omega)]) (wpc_skip ?_)
      have hden : denIn s = 1 := by unfold denIn; rw [if_neg hd]
      refine .inl ⟨rfl, rfl, hS10', gA10, gB10, by omega, hu.same hS10, hub, ⟨.sl S9.nx 0 1 1 false, by simp only [↓stU, stD, reduceEqDiff, ↓reduceIte], by rw [hden]; exact ho⟩, by rw [hden]; exact one_ltB (K := 1024) (by decide), by simp only [↓stU, stD, reduceEqDiff, ↓reduceIte, p2], by simp only [↓stU, stD, reduceEqDiff, ↓reduceIte, p3], by simp only [↓stU, stD, reduceEqDiff, ↓reduceIte, p5], by simp only [↓stU, stD, reduceEqDiff, ↓reduceIte, p7], by simp only [↓stU, stD, reduceEqDiff, ↓reduceIte], ?_⟩
      rw [hrest]; unfold ratG; rw [if_neg (fun h => h hn), if_neg (fun h => hd h.1)]
  clear p0 p2 p3 p5 p7
  rintro o ⟨F, inr⟩ X (⟨rfl, q0, hX, gAX, gBX, ltX, huX, _, ⟨dv, p10, hdv⟩, hdb, p2, p3, p5, p7, p8, hres⟩ | ⟨rfl, h⟩)
  rotate_left
  · exact outP_ret h
  simp only at q0 p2 p3 p5 p7 p8 p10
  subst q0
  clear hS10' gA10 gB10 d10 hS10 ho hu gA9 gB9 hS79 h79 hS9 hS29 c9 s9 n9 c8 s8 n8 hS7
  try simp only [↓stU, stD, reduceEqDiff, ↓reduceIte]
  obtain ⟨k, hk1, hk2⟩ := hdv.lenZ
  refine wss ?_
  simp only [↓stU, stD, reduceEqDiff, ↓reduceIte, p10, hk1]
  by_cases hz : k = 0
  · refine wpc_yes (by simp only [↓stU, stD, reduceEqDiff, ↓reduceIte, decide_eq_true (show ((k : Nat) : Int) = 0 by omega)]) ?_
    have hd0 := hk2.1 hz
    have hdd : slashAt s < s.length := by
      rcases Nat.lt_or_ge (slashAt s) s.length with h | h
      · exact h
      · unfold denIn at hd0; rw [if_neg (by omega)] at hd0; cases hd0
    have hres : ratF s = (6, (slashAt s : Int) + 1) := by
      unfold denIn at hd0
      rw [if_pos hdd] at hd0
      rw [hres, if_pos ⟨hdd, hd0⟩]
    have w1 : IntKind.i64.wrap ((slashAt s : Int) + 1) = (slashAt s : Int) + 1 := wrap_i64 (by omega) (by omega)
    refine wsr ?_
    simp only [↓stU, stD, reduceEqDiff, ↓reduceIte, p5, evQ_zr, evQ_f2, cells_int, w1]
    refine wpo_st (b := S.nx) (by simp only [↓stU, stD, reduceEqDiff, ↓reduceIte, p2]) (by simp only [↓stU, stD, reduceEqDiff, ↓reduceIte]; exact cells_agg _) gAX rfl rfl ?_
    intro S3 s3 n3 c3
    refine wpo_st (b := S.nx + 1) (by simp only [↓stU, stD, reduceEqDiff, ↓reduceIte, p3]) (by simp only [↓stU, stD, reduceEqDiff, ↓reduceIte]; exact cells_agg _) (by rw [s3.2 _ (by omega) (by omega)]; exact gBX) rfl rfl ?_
    intro S4 s4 n4 c4
    simp only [↓stU, stD, reduceEqDiff, ↓reduceIte]
    refine wpc_ret ?_
    exact outP_ret ⟨s4.same (s3.same hX (Nat.le_refl _)) (by omega), by simp only [↓stU, stD, reduceEqDiff, ↓reduceIte, p2], by simp only [↓stU, stD, reduceEqDiff, ↓reduceIte, p3], by rw [s4.2 _ (by omega) (by omega)]; exact c3, by rw [hres]; exact c4, by rw [hres]; simp⟩
  · refine wpc_non (by simp only [↓stU, stD, reduceEqDiff, ↓reduceIte, decide_eq_false (show ¬ ((k : Nat) : Int) = 0 by omega)]) (wpc_skip ?_)
    try simp only [↓stU, stD, reduceEqDiff, ↓reduceIte]
    have hd0 : denIn s ≠ 0 := fun e => hz (hk2.2 e)
    have hres : ratF s = (0, 0) := by
      rw [hres, if_neg]
      rintro ⟨h1, h2⟩
      unfold denIn at hd0
      rw [if_pos h1] at hd0
      exact hd0 h2
    have hne : decide (((nN s : Nat) : Int) = 1) = negIn s := by
      rw [hnI]
      cases negIn s <;> rfl
    refine wsr ?_
    simp only [↓stU, stD, reduceEqDiff, ↓reduceIte, p7, p8, p10, hne]
    refine wpo_call ?_
    simp only [↓stU, stD, reduceEqDiff, ↓reduceIte]
    refine wpf_mono (xlowest_spec (K := 1024) H huX hdv hub hdb (by decide) (by omega)) ?_
    rintro v S3 ⟨hv, hS3⟩
    obtain ⟨x, y, z, rfl⟩ := hv.cells
    simp only [↓stU, stD, reduceEqDiff, ↓reduceIte, evQ_f0]
    have le3 := hS3.1
    have gA3 : S3.h.get S.nx = some (.cells zeroR false 0) := by rw [hS3.2 _ (by omega)]; exact gAX
    have gB3 : S3.h.get (S.nx + 1) = some (.cells [.int .i64 0, .int .i64 0] false 0) := by rw [hS3.2 _ (by omega)]; exact gBX
    refine wpo_st (b := S.nx) (by simp only [↓stU, stD, reduceEqDiff, ↓reduceIte, p2]) (by simp only [↓stU, stD, reduceEqDiff, ↓reduceIte]; exact cells_agg _) gA3 rfl rfl ?_
    intro S4 s4 n4 c4
    have gB4 : S4.h.get (S.nx + 1) = some (.cells [.int .i64 0, .int .i64 0] false 0) := by rw [s4.2 _ (by omega) (by omega)]; exact gB3
    refine wpo_st (b := S.nx + 1) (by simp only [↓stU, stD, reduceEqDiff, ↓reduceIte, p3]) (by simp only [↓stU, stD, reduceEqDiff, ↓reduceIte]; exact cells_agg _) gB4 rfl rfl ?_
    intro S5 s5 n5 c5
    simp only [↓stU, stD, reduceEqDiff, ↓reduceIte]
    refine wpc_ret ?_
    have c4' : S5.h.get S.nx = some (.cells [x, y, z] false 0) := by rw [s5.2 _ (by omega) (by omega)]; exact c4
    simp only [↓stU, stD, reduceEqDiff, ↓reduceIte, results_cell, p2, p3, ld3 c4', ld2a c5]
    rw [hres]
    exact ⟨_, rfl, fun _ => (hv.stU gA3 rfl s4 c4).stU gB4 rfl s5 c5, fun h => absurd rfl h, s5.same (s4.same (hX.trans hS3) (Nat.le_refl _)) (by omega)⟩
end Go.Ev.Gl

namespace Go.Ev.Gl
variable {fns : T AFn}

theorem ratF_zero {s : List Nat} (h : (ratF s).1 = 0) : numIn s < B ^ 1024 ∧ denIn s < B ^ 1024 ∧ denIn s ≠ 0 := by
  unfold ratF at h
  split at h
  · cases h
  split at h
  · cases h
  split at h
  · cases h
  split at h
  · rename_i h1; exact absurd h h1
  split at h
  · rename_i h1; exact absurd h h1.2
  split at h
  · cases h
  rename_i h1 h2 h3
  have h1 : (natF (digitsIn s)).1 = 0 := by
    rcases Decidable.em ((natF (digitsIn s)).1 = 0) with e | e
    · exact e
    · exact absurd e h1
  refine ⟨natF_zero h1, ?_⟩
  unfold denIn
  by_cases hd : slashAt s < s.length
  · rw [if_pos hd]
    have h2 : (natF (below s)).1 = 0 := by
      rcases Decidable.em ((natF (below s)).1 = 0) with e | e
      · exact e
      · exact absurd ⟨hd, e⟩ h2
    exact ⟨natF_zero h2, fun e => h3 ⟨hd, e⟩⟩
  · rw [if_neg hd]
    exact ⟨one_ltB (K := 1024) (by decide), by decide⟩
theorem ratF_fits {s : List Nat} (h : (ratF s).1 = 0) : FitsR (mkRat (sg (negIn s) (numIn s)) (denIn s)) := by
  obtain ⟨h1, h2, h3⟩ := ratF_zero h
  obtain ⟨k1, k2⟩ := mkRat_le (n := sg (negIn s) (numIn s)) h3
  rw [sg_natAbs] at k1
  have : InBound (mkRat (sg (negIn s) (numIn s)) (denIn s)) := ⟨Nat.lt_of_le_of_lt k1 h1, Nat.lt_of_le_of_lt k2 h2⟩
  exact this.half.fits
theorem eql_pair (a b : Int) : binV .eql (.struct [(0, .int), (1, .int)]) (.agg [.int .i64 a, .int .i64 b]) (.agg [.int .i64 a, .int .i64 b]) = some (.bool true) := by
  show osel (eqv (.struct [(0, .int), (1, .int)]) _ _) _ = _
  have e : eqv (.struct [(0, .int), (1, .int)]) (.agg [.int .i64 a, .int .i64 b]) (.agg [.int .i64 a, .int .i64 b]) = some true := by
    show eqs [(0, .int), (1, .int)] [.int .i64 a, .int .i64 b] [.int .i64 a, .int .i64 b] = _
    have k : ∀ z : Int, eqp .int (.int .i64 z) (.int .i64 z) = some true := fun z => by
      show bsel (keq .i64 .i64) (some (ieq z z)) none = _
      rw [keq_refl, bsel_true, ieq_eq]
      simp
    unfold eqs
    show (match eqp .int (.int .i64 a) (.int .i64 a) with | some true => _ | some false => _ | none => _) = _
    rw [k]
    unfold eqs
    show (match eqp .int (.int .i64 b) (.int .i64 b) with | some true => _ | some false => _ | none => _) = _
    rw [k]
    rfl
  rw [e]
  rfl

set_option maxRecDepth 10000 in
set_option maxHeartbeats 4000000 in
/-- THE LAW 'RatTexts', in the evaluator. -/
theorem texts_spec {S : St} {a : AV} {t : Bool} {l m : List Nat} {s : List Nat} (H : Has fns) (hL : Laid S) (hT : DigT S) (hF : Fresh S) (hAw : ∀ S, Laid S → DigT S → wpf fns (.fn 5 [] []) [] S fun r S' => r = .bool true ∧ Same S S')
    (ha : RawIs S a t l m) (hb : Bytes s ∧ s.length ≤ maxLen) : wpf fns (.fn 3 [] []) [a, .str s] S fun r S' => r = .bool true ∧ Same S S' := by
  obtain ⟨a0, a1, a2, rfl⟩ := ha.cells
  refine wpf_fn H.f3 (by simp) ?_
  simp only [↓stU, stD, reduceEqDiff, ↓reduceIte]
  refine wsr ?_
  refine wpo_box (by simp only [↓stU, stD, reduceEqDiff, ↓reduceIte]; exact cells_agg _) ?_
  intro S1 s1 n1 c1
  simp only [↓stU, stD, reduceEqDiff, ↓reduceIte]
  refine wpc_seq (wpc_seq (wpc_mono (Q := fun o A' X => o = .normal ∧ A'.inr = false ∧ tmpV 1 A'.F = .str s ∧ tmpV 2 A'.F = .ptr S.nx 0 ∧ Same S1 X ∧ ∃ tt, tmpV 39 A'.F = .bool tt ∧ (tt = false → longB l m = false)) (wpc_reg ?_) ?_))
  · simp only [↓stU, stD, reduceEqDiff, ↓reduceIte, ld3 c1]
    refine wpo_call ?_
    simp only [↓stU, stD, reduceEqDiff, ↓reduceIte]
    refine wpf_mono (long_spec H (ha.same s1)) ?_
    rintro _ X ⟨rfl, x1⟩
    cases hlong : longB l m with
    | true =>
      simp only [↓stU, stD, reduceEqDiff, ↓reduceIte]
      exact ⟨x1, true, rfl, fun h => (by cases h)⟩
    | false =>
      have go : ∀ {n : Int}, (∃ b, decide (n < (s.length : Int)) = b) := fun {n} => ⟨_, rfl⟩
      by_cases g1 : (500 : Int) < ((s.length : Nat) : Int)
      · by_cases g2 : ((s.length : Nat) : Int) ≤ 9210
        · simp only [↓stU, stD, reduceEqDiff, ↓reduceIte, evQ_lenStr, lenStr_eq, decide_eq_true g1, decide_eq_true g2]
          exact ⟨x1, true, rfl, fun h => (by cases h)⟩
        · by_cases g3 : (9230 : Int) < ((s.length : Nat) : Int)
          · by_cases g4 : ((s.length : Nat) : Int) ≤ 19990
            · simp only [↓stU, stD, reduceEqDiff, ↓reduceIte, evQ_lenStr, lenStr_eq, decide_eq_true g1, decide_eq_false g2, decide_eq_true g3, decide_eq_true g4]
              exact ⟨x1, true, rfl, fun h => (by cases h)⟩
            · simp only [↓stU, stD, reduceEqDiff, ↓reduceIte, evQ_lenStr, lenStr_eq, decide_eq_true g1, decide_eq_false g2, decide_eq_true g3, decide_eq_false g4]
              exact ⟨x1, _, rfl, fun _ => by simp⟩
          · simp only [↓stU, stD, reduceEqDiff, ↓reduceIte, evQ_lenStr, lenStr_eq, decide_eq_true g1, decide_eq_false g2, decide_eq_false g3]
            exact ⟨x1, _, rfl, fun _ => by simp⟩
      · have g3 : ¬ (9230 : Int) < ((s.length : Nat) : Int) := by omega
        simp only [↓stU, stD, reduceEqDiff, ↓reduceIte, evQ_lenStr, lenStr_eq, decide_eq_false g1, decide_eq_false g3]
        exact ⟨x1, _, rfl, fun _ => by simp⟩
  rintro o ⟨F, inr⟩ X ⟨rfl, q0, p1, p2, hX, tt, p39, hlong⟩
  simp only at q0 p1 p2 p39
  subst q0
  have hSX := s1.trans hX
  have lX := hX.1
  try simp only [↓stU, stD, reduceEqDiff, ↓reduceIte]
  cases tt with
  | true =>
    refine wpc_yes (by simp only [↓stU, stD, reduceEqDiff, ↓reduceIte, p39]) ?_
    refine wsr ?_
    refine wpo_call ?_
    simp only [↓stU, stD, reduceEqDiff, ↓reduceIte]
    refine wpf_mono (hAw X (hL.same hSX) (hT.same hSX)) ?_
    rintro _ Y ⟨rfl, hY⟩
    try simp only [↓stU, stD, reduceEqDiff, ↓reduceIte]
    refine wpc_ret ?_
    simp only [↓stU, stD, reduceEqDiff, ↓reduceIte]
    exact hSX.trans hY
  | false =>
  have hlong := hlong rfl
  refine wpc_non (by simp only [↓stU, stD, reduceEqDiff, ↓reduceIte, p39]) (wpc_skip ?_)
  try simp only [↓stU, stD, reduceEqDiff, ↓reduceIte]
  have hsolo := (solo_of ha hlong).same hSX
  have gX : X.h.get S.nx = some (.cells [a0, a1, a2] false 0) := by rw [hX.2 _ (by omega)]; exact c1
  refine wsr ?_
  simp only [↓stU, stD, reduceEqDiff, ↓reduceIte, p2, ld3 gX]
  refine wpo_call ?_
  simp only [↓stU, stD, reduceEqDiff, ↓reduceIte]
  refine wpf_mono (ptextS H (hL.same hSX) (hT.same hSX) hsolo) ?_
  rintro r1 S3 ⟨ht1, h3⟩
  have l3 := h3.1
  have gX3 : S3.h.get S.nx = some (.cells [a0, a1, a2] false 0) := by rw [h3.2 _ (by omega)]; exact gX
  obtain ⟨w, hr1, k1, k2⟩ := id ht1
  subst hr1
  simp only [↓stU, stD, reduceEqDiff, ↓reduceIte, ex0, ex1]
  refine wsr ?_
  simp only [↓stU, stD, reduceEqDiff, ↓reduceIte, p2, ld3 gX3]
  refine wpo_call ?_
  simp only [↓stU, stD, reduceEqDiff, ↓reduceIte]
  refine wpf_mono (xtextS H (hsolo.same h3)) ?_
  rintro r2 S4 ⟨ht2, h4⟩
  obtain ⟨w', e1, e2⟩ := textR_eq ht1 ht2
  simp only [AV.tup.injEq, List.cons.injEq, AV.str.injEq, and_true] at e1
  obtain rfl : w = w' := e1
  subst e2
  have l4 := h4.1
  have hS4 := hSX.trans (h3.trans h4)
  simp only [↓stU, stD, reduceEqDiff, ↓reduceIte, ex0, ex1]
  -- read by the program
  refine wsr ?_
  simp only [↓stU, stD, reduceEqDiff, ↓reduceIte, p1]
  refine wpo_call ?_
  simp only [↓stU, stD, reduceEqDiff, ↓reduceIte]
  refine wpf_mono (rparse_spec H (hL.same hS4) hb.1) ?_
  rintro _ S5 ⟨v, rfl, hv0, hv1, h5⟩
  have hvO : ∃ v0 v1 v2, v = .agg [v0, v1, v2] ∧ OptIs S5 [v0, v1, v2] (opt (ratF s).1 (mkRat (sg (negIn s) (numIn s)) (denIn s))) := by
    by_cases h0 : (ratF s).1 = 0
    · have hv := hv0 h0
      obtain ⟨v0, v1, v2, rfl⟩ := hv.cells
      refine ⟨v0, v1, v2, rfl, ?_⟩
      rw [h0]
      exact hv
    · rw [opt_no h0]
      exact ⟨_, _, _, hv1 h0, rfl⟩
  obtain ⟨v0, v1, v2, rfl, hvO⟩ := hvO
  have l5 := h5.1
  simp only [↓stU, stD, reduceEqDiff, ↓reduceIte, ex0, ex1]
  refine wpo_alloc ?_
  intro S6 s6 n6 c6
  refine wpo_alloc ?_
  intro S7 s7 n7 c7
  refine wpo_st (b := S5.nx) (by simp only [↓stU, stD, reduceEqDiff, ↓reduceIte]) (by simp only [↓stU, stD, reduceEqDiff, ↓reduceIte]; exact cells_agg _) (by rw [s7.2 _ (by omega)]; exact c6) rfl rfl ?_
  intro S8 s8 n8 c8
  refine wpo_st (b := S6.nx) (by simp only [↓stU, stD, reduceEqDiff, ↓reduceIte]) (by simp only [↓stU, stD, reduceEqDiff, ↓reduceIte]; exact cells_agg _) (by rw [s8.2 _ (by omega) (by omega)]; exact c7) rfl rfl ?_
  intro S9 s9 n9 c9
  simp only [↓stU, stD, reduceEqDiff, ↓reduceIte]
  have s57 := s6.trans s7
  have s59 : Same S5 S9 := s9.same (s8.same s57 (Nat.le_refl _)) (by omega)
  have gV9 : S9.h.get S5.nx = some (.cells [v0, v1, v2] false 0) := by rw [s9.2 _ (by omega) (by omega)]; exact c8
  have hS9 := (hS4.trans h5).trans s59
  have hv9 := hvO.same s59
  -- read by the reference
  refine wsr ?_
  simp only [↓stU, stD, reduceEqDiff, ↓reduceIte, p1]
  refine wpo_call ?_
  simp only [↓stU, stD, reduceEqDiff, ↓reduceIte]
  refine wpf_mono (xrparse_spec H hb.1) ?_
  rintro _ T5 ⟨u, rfl, hu0, hu1, t5⟩
  have huO : ∃ v0 v1 v2, u = .agg [v0, v1, v2] ∧ OptIs T5 [v0, v1, v2] (opt (ratF s).1 (mkRat (sg (negIn s) (numIn s)) (denIn s))) := by
    by_cases h0 : (ratF s).1 = 0
    · have hv := hu0 h0
      obtain ⟨v0, v1, v2, rfl⟩ := hv.cells
      refine ⟨v0, v1, v2, rfl, ?_⟩
      rw [h0]
      exact hv
    · rw [opt_no h0]
      exact ⟨_, _, _, hu1 h0, rfl⟩
  obtain ⟨u0, u1, u2, rfl, huO⟩ := huO
  have lt5 := t5.1
  simp only [↓stU, stD, reduceEqDiff, ↓reduceIte, ex0, ex1]
  refine wpo_alloc ?_
  intro T6 t6 m6 d6
  refine wpo_alloc ?_
  intro T7 t7 m7 d7
  refine wpo_st (b := T5.nx) (by simp only [↓stU, stD, reduceEqDiff, ↓reduceIte]) (by simp only [↓stU, stD, reduceEqDiff, ↓reduceIte]; exact cells_agg _) (by rw [t7.2 _ (by omega)]; exact d6) rfl rfl ?_
  intro T8 t8 m8 d8
  refine wpo_st (b := T6.nx) (by simp only [↓stU, stD, reduceEqDiff, ↓reduceIte]) (by simp only [↓stU, stD, reduceEqDiff, ↓reduceIte]; exact cells_agg _) (by rw [t8.2 _ (by omega) (by omega)]; exact d7) rfl rfl ?_
  intro T9 t9 m9 d9
  simp only [↓stU, stD, reduceEqDiff, ↓reduceIte]
  have t57 := t6.trans t7
  have t59 : Same T5 T9 := t9.same (t8.same t57 (Nat.le_refl _)) (by omega)
  have s9T := t5.trans t59
  have gU9 : T9.h.get T5.nx = some (.cells [u0, u1, u2] false 0) := by rw [t9.2 _ (by omega) (by omega)]; exact d8
  have gV9' : T9.h.get S5.nx = some (.cells [v0, v1, v2] false 0) := by rw [s9T.2 _ (by omega)]; exact gV9
  have gE9 : T9.h.get S6.nx = some (.cells [.int .i64 (ratF s).1, .int .i64 (ratF s).2] false 0) := by rw [s9T.2 _ (by omega)]; exact c9
  have hT9 := hS9.trans s9T
  have huT := huO.same t59
  have hvT := hv9.same s9T
  refine wsr ?_
  simp only [↓stU, stD, reduceEqDiff, ↓reduceIte, bin_eql_str, decide_true, ld3 gV9', ld3 gU9]
  refine wpo_call ?_
  simp only [↓stU, stD, reduceEqDiff, ↓reduceIte]
  refine wpf_mono (sameOpt H hvT huT (fun q hq => ?_)) ?_
  · unfold opt at hq
    split at hq
    · rename_i h0
      cases hq
      exact ratF_fits h0
    · cases hq
  rintro _ Y ⟨rfl, hY⟩
  have gE : Y.h.get S6.nx = some (.cells [.int .i64 (ratF s).1, .int .i64 (ratF s).2] false 0) := by rw [hY.2 _ (by omega)]; exact gE9
  have gD : Y.h.get T6.nx = some (.cells [.int .i64 (ratF s).1, .int .i64 (ratF s).2] false 0) := by rw [hY.2 _ (by omega)]; exact d9
  simp only [↓stU, stD, reduceEqDiff, ↓reduceIte, ld2a gE, ld2a gD, eql_pair]
  refine wpo_call ?_
  simp only [↓stU, stD, reduceEqDiff, ↓reduceIte]
  have hYS := hT9.trans hY
  refine wpf_mono (hAw Y (hL.same hYS) (hT.same hYS)) ?_
  rintro _ Z ⟨rfl, hZ⟩
  try simp only [↓stU, stD, reduceEqDiff, ↓reduceIte]
  refine wpc_ret ?_
  simp only [↓stU, stD, reduceEqDiff, ↓reduceIte]
  exact hYS.trans hZ
end Go.Ev.Gl
