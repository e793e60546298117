import Derived.Test.YtoojnpjgnnpllaaGl9
open Nat renaming reduceEqDiff → rE, reduceAdd → rA
set_option maxHeartbeats 16000000
set_option linter.unusedSimpArgs false
set_option linter.unusedVariables false
namespace Go.Ev.Gl
variable {fns : T eJ}
theorem aG9 {l : List Int} {i : Nat} {v : Int} (hi : i < l.length) (h : l.getD i 0 = v) : l.set i v = l := by
 refine aEW (Au ..) fun j hj => ?_
 rw [lC hi]
 split
 ·rename_i e; rw [← e, h]
 ·rfl
theorem uG {S : St} {b sz : Nat} {l : List Int} {x v : Int} (H : Has fns) (hg : S.h.get b = some (.cells (bB l) false sz)) (h0 : 0 ≤ x) (hx : x.toNat < l.length) :
  iM fns (.fn 157 [] []) [uR b l, .int .i64 x, .int .i64 v] S fun r S' => cU b S S' ∧ ∃ t, r = .bool t ∧ (t = true → S'.h.get b = some (.cells (bB (l.set x.toNat v)) false sz) ∧ (0 ≤ l.getD x.toNat 0 → l.getD x.toNat 0 = v)) ∧ (t = false → 0 ≤ l.getD x.toNat 0 ∧ l.getD x.toNat 0 ≠ v) := by
 unfold uR
 have hn := aAy (k := .i64) h0
 have hia := fV (b := b) (o := false) hx
 have hld := aBV hg hx
 refine cV H.f157 (by simp) ?_
 simp only [↓sU,sD,rE,↓reduceIte,rA]
 refine cF ?_
 simp only [↓sU,sD,rE,↓reduceIte,rA]
 by_cases hlt : l.getD x.toNat 0 < 0
 ·refine jH ?_
  simp only [↓sU,sD,rE,↓reduceIte,rA, hn, hia, hld]
  refine aY (by simp only [↓sU,sD,rE,↓reduceIte,rA, Ad hlt]) ?_
  refine aP ?_
  simp only [↓sU,sD,rE,↓reduceIte,rA, hn, hia]
  refine fX (fun call => by simp only [↓sU,sD,rE,↓reduceIte,rA, dW, cT]; exact uA (S := S) hg hx) ?_
  simp only [↓sU,sD,rE,↓reduceIte,rA]
  have hg2 : (S.h.set b (some (.cells (bB (l.set x.toNat v)) false sz))).get b = some (.cells (bB (l.set x.toNat v)) false sz) := by rw [T.get_set, if_pos rfl]
  have hld2 := aBV hg2 (show x.toNat < (l.set x.toNat v).length by rw [Au]; exact hx)
  rw [lC hx, if_pos rfl] at hld2
  refine cF ?_
  simp only [↓sU,sD,rE,↓reduceIte,rA, hn, hia, hld2]
  refine bD ?_
  simp only [↓sU,sD,rE,↓reduceIte,rA]
  exact ⟨(cU.refl b S).put _, _, rfl, fun _ => ⟨hg2, fun h => absurd hlt (by omega)⟩, fun h => by simp at h⟩
 ·refine jH ?_
  simp only [↓sU,sD,rE,↓reduceIte,rA, hn, hia, hld]
  refine aT (by simp only [↓sU,sD,rE,↓reduceIte,rA, Aa hlt]) (aN ?_)
  try simp only [↓sU,sD,rE,↓reduceIte,rA]
  refine cF ?_
  simp only [↓sU,sD,rE,↓reduceIte,rA, hn, hia, hld]
  refine bD ?_
  simp only [↓sU,sD,rE,↓reduceIte,rA]
  refine ⟨cU.refl b S, _, rfl, fun h => ?_, fun h => ?_⟩
  ·rw [Db] at h
   exact ⟨by rw [aG9 hx h]; exact hg, fun _ => h⟩
  ·rw [decide_eq_false_iff_not] at h
   exact ⟨by omega, h⟩
def aMO (S : St) (a b : AV) (l m : List Int) (k : Nat) (A : bT) (X : St) : Prop := A.inr = false ∧ Same S X ∧ ∃ i, i + k = l.length ∧ l.take i = m.take i ∧ aC 0 A.F = a ∧ aC 1 A.F = b ∧ aC 12 A.F = .int .i64 ((l.length : Nat) : Int) ∧ aC 13 A.F = .int .i64 (i : Int)
theorem uM {S : St} {a b : AV} {l m : List Int} (H : Has fns) (ha : bO .i64 S a l) (hb : bO .i64 S b m) (hl : l.length ≤ 10000000) : iM fns (.fn 152 [] []) [a, b] S fun r S' => r = .bool (decide (l = m)) ∧ Same S S' := by
 refine cV H.f152 (by simp) ?_
 simp only [↓aH,aJ,rE,↓reduceIte, rA]
 refine cF ?_
 simp only [↓aH,aJ,rE,↓reduceIte, rA]
 refine jH ?_
 simp only [↓aH,aJ,rE,↓reduceIte, rA, ha.len, hb.len, Aj]
 by_cases hlm : l.length = m.length
 rotate_left
 ·rw [Aa (show ¬ l = m from fun e => hlm (by rw [e]))]
  refine aY (by simp only [↓aH,aJ,rE,↓reduceIte, rA, Ad (show ((l.length : Nat) : Int) ≠ ((m.length : Nat) : Int) by omega)]) ?_
  refine cF ?_
  simp only [↓aH,aJ,rE,↓reduceIte, rA]
  refine bD ?_
  simp only [↓aH,aJ,rE,↓reduceIte, rA]
  exact Same.refl _
 refine aT (by simp only [↓aH,aJ,rE,↓reduceIte, rA, Aa (show ¬ ((l.length : Nat) : Int) ≠ ((m.length : Nat) : Int) by omega)]) (aN ?_)
 try simp only [↓aH,aJ,rE,↓reduceIte, rA]
 refine aD (bN (Q := fun o A' X => (o = .normal ∧ aMO S a b l m 0 A' X) ∨ (o = .ret ∧ Same S X ∧ l ≠ m ∧ aC 4 A'.F = .bool false)) (aD (aP ?_)) ?_)
 ·simp only [↓aH,aJ,rE,↓reduceIte, rA, ha.len, Aj]
  refine aU (cI (aMO S a b l m) ?_ l.length _ _ ⟨rfl, Same.refl _, 0, by omega, rfl, by refine ⟨?_,?_,?_,?_⟩<;>simp only [↓aH,aJ,rE,↓reduceIte,rA]⟩)
  rintro k ⟨F, inr⟩ X ⟨q0, hX, i, hik, he, p0, p1, p12, p13⟩
  simp only at q0 p0 p1 p12 p13
  subst q0
  refine cF ?_
  simp only [↓aH,aJ,rE,↓reduceIte, rA, p12, p13]
  by_cases hlt : i < l.length
  ·refine aD (aY (by simp only [↓aH,aJ,rE,↓reduceIte, rA, Ad (show (i : Int) < ((l.length : Nat) : Int) by omega)]) (aN ?_))
   try simp only [↓aH,aJ,rE,↓reduceIte, rA]
   have hltm : i < m.length := by omega
   have ia := (ha.same hX).iaddr hlt
   have la := (ha.same hX).ld hlt
   have ib := (hb.same hX).iaddr hltm
   have lb := (hb.same hX).ld hltm
   have w1 : IntKind.i64.wrap ((i : Int) + 1) = ((i + 1 : Nat) : Int) := by rw [wrap_i64 (by omega) (by omega)]; omega
   refine aD (aU (aD (aP ?_)))
   simp only [↓aH,aJ,rE,↓reduceIte, rA, p13]
   refine aD (gE ?_)
   simp only [↓aH,aJ,rE,↓reduceIte, rA, p0, p1, aG, ia, ib, la, lb]
   have el : l.getD i 0 = l[i] := by rw [Ac, Ab hlt]; rfl
   have em : m.getD i 0 = m[i] := by rw [Ac, Ab hltm]; rfl
   by_cases hx : l.getD i 0 = m.getD i 0
   ·refine aT (by simp only [↓aH,aJ,rE,↓reduceIte, rA, Aa (show ¬ l.getD i 0 ≠ m.getD i 0 from fun h => h hx)]) (aN ?_)
    try simp only [↓aH,aJ,rE,↓reduceIte, rA]
    refine aP ?_
    simp only [↓aH,aJ,rE,↓reduceIte, rA, p13, w1]
    refine ⟨k - 1, by omega, rfl, hX.trans (Same.nx _ _), i + 1, by omega, ?_, by refine ⟨?_,?_,?_,?_⟩<;>simp only [↓aH,aJ,rE,↓reduceIte,rA,p0,p1,p12]⟩
    rw [Cl, Cl, he, Ab hlt, Ab hltm, ← el, ← em, hx]
   ·refine aY (by simp only [↓aH,aJ,rE,↓reduceIte, rA, Ad (show l.getD i 0 ≠ m.getD i 0 from hx)]) ?_
    refine cF ?_
    simp only [↓aH,aJ,rE,↓reduceIte, rA]
    refine bD ?_
    simp only [↓aH,aJ,rE,↓reduceIte, rA]
    exact .inr ⟨hX.trans (Same.nx _ _), fun e => hx (by rw [e])⟩
  ·refine aD (aT (by simp only [↓aH,aJ,rE,↓reduceIte, rA, Aa (show ¬ (i : Int) < ((l.length : Nat) : Int) by omega)]) (cC ?_))
   simp only [↓aH,aJ,rE,↓reduceIte, rA]
   have hk0 : k = 0 := by omega
   subst hk0
   exact .inl ⟨rfl, hX, i, hik, he, by refine ⟨?_,?_,?_,?_⟩<;>simp only [↓aH,aJ,rE,↓reduceIte,rA,p0,p1,p12,p13]⟩
 rintro o ⟨F, inr⟩ X (⟨rfl, q0, hX, i, hik, he, p0, p1, p12, p13⟩ | ⟨rfl, hX, hne, p4⟩)
 rotate_left
 ·simp only at p4
  simp only [↓aH,aJ,rE,↓reduceIte, rA, p4]
  rw [Aa hne]
  exact ⟨rfl, hX⟩
 simp only at q0
 subst q0
 rw [Bn (by omega), Bn (by omega)] at he
 rw [Ad he]
 try simp only [↓aH,aJ,rE,↓reduceIte, rA]
 refine cF ?_
 simp only [↓aH,aJ,rE,↓reduceIte, rA]
 refine bD ?_
 simp only [↓aH,aJ,rE,↓reduceIte, rA]
 exact hX
theorem xM {h : Ev.T AB} {P P' : Fr → Prop} (hP : ∀ F, P F → P' F) : ∀ (l : List AO) (F : Fr), mD l F h P → mD l F h P'
 | [], F, hr => hP F hr
 | ⟨d, .q q, g, mm⟩ :: l, F, hr => by
  simp only [mD] at hr ⊢
  split at hr
  ·rename_i hw
   rw [if_pos hw]
   obtain ⟨w, hw1, hw2, hw3⟩ := hr
   exact ⟨w, hw1, hw2, xM hP l _ hw3⟩
  ·rename_i hw
   rw [if_neg hw]
   exact xM hP l _ hr
 | ⟨d, .a a, g, mm⟩ :: l, F, hr => by cases hr
 | ⟨d, .x a, g, mm⟩ :: l, F, hr => by cases hr
theorem aKM {ops pre : List AO} {K m m1 m2 s d e1 e2 : Nat} {b : Bool} {f : cK} {args : List cK} {q1 q2 : uY} {A : bT} {S : St} {Q : Out → bT → St → Prop}
  (he : ops = pre ++ [⟨some d, .x (.call f args), some (s, b), m⟩, ⟨some e1, .q q1, some (s, b), m1⟩, ⟨some e2, .q q2, none, m2⟩]) (hK : pre.length = K) (h3 : (pre.all fun o => !Nat.testBit o.mask K) = true) (hm : ((List.range K).all fun i => Nat.testBit m i) = true) (hd : d ≠ s) (hq1 : dH q1 = false) (hq2 : dH q2 = false)
  (h : mD pre A.F S.h fun F' => aC s F' = .bool b ∧ iM fns (f.val F') (cW args F') ⟨S.h, S.nx + (K + 3)⟩ fun v S1 => ∃ w1 w2, gR q1 (cJ (some d) F' v) S1.h = some w1 ∧ gR q2 (cJ (some e1) (cJ (some d) F' v) w1) S1.h = some w2 ∧ Q .normal ⟨cJ (some e2) (cJ (some e1) (cJ (some d) F' v) w1) w2, A.inr⟩ S1) : kH fns (.drw ops) A S Q := by
 subst he
 have hlen : (pre ++ [(⟨some d, .x (.call f args), some (s, b), m⟩ : AO), ⟨some e1, .q q1, some (s, b), m1⟩, ⟨some e2, .q q2, none, m2⟩]).length = K + 3 := by simp [hK]
 refine qD ?_
 rw [hlen]
 refine vK (h := S.h) (K := K) (pre := pre) (i := 0) rfl (by omega) (fun o ho => by have := Dm.1 h3 o ho; simpa using this) (fun l hl => by cases hl) ?_
 refine xM ?_ pre A.F h
 rintro F' ⟨hg, hw⟩ ls hls
 refine aIL hg (aBu rfl ?_)
 simp only [cA]
 refine aW hw ?_
 rintro v S1 ⟨w1, w2, x1, x2, hQ⟩
 refine aIL (by rw [← hg]; simp only [bL]; rw [if_neg (Cr hd)]) ?_
 rw [iU]
 refine ⟨w1, x1, ?_⟩
 simp only [hq1, aL]
 rw [iU]
 refine ⟨w2, x2, ?_⟩
 simp only [hq2, aL]
 rw [jR]
 refine ⟨?_, ?_⟩
 ·simp only [Cz, List.reverse_nil, Bw]
  refine kS fun l hl => ?_
  obtain ⟨h1, h2, h4⟩ := hls l hl
  have hm2 := Dm.1 hm l.i (List.mem_range.2 h2)
  unfold eM
  rw [h4, aL, h1, aF, hm2, aF]
 ·simp only [cA]
  exact hQ
def iS (W : Nat → Prop) (S X : St) : Prop := S.nx ≤ X.nx ∧ ∀ c, c < S.nx → ¬ W c → X.h.get c = S.h.get c
section
variable {W : Nat → Prop} {S X Y : St} {b : Nat}
theorem iS.refl (W : Nat → Prop) (S : St) : iS W S S := ⟨Af _, fun _ _ _ => rfl⟩
theorem iS.trans (h : iS W S X) (h' : iS W X Y) : iS W S Y := ⟨Al h.1 h'.1, fun c hc hw => (h'.2 c (Ae hc h.1) hw).trans (h.2 c hc hw)⟩
theorem Same.butW (h : Same S X) : iS W S X := ⟨h.1, fun c hc _ => h.2 c hc⟩
theorem cU.butW (h : cU b S X) (hb : W b) : iS W S X := ⟨h.1, fun c hc hw => h.2 c hc fun e => hw (by rw [e]; exact hb)⟩
theorem iS.same {S0 : St} (h : iS W S X) (h0 : Same S0 S) (hW : ∀ b, W b → S0.nx ≤ b) : Same S0 X := ⟨Al h0.1 h.1, fun c hc => (h.2 c (Ae hc h0.1) fun hw => by have := hW c hw; omega).trans (h0.2 c hc)⟩
end
structure Lay where
 sb : Nat
 ob : Nat
 fb : Nat
 mb : Nat
 kb : Nat
 wb : Nat
 ib : Nat
 rb : Nat
 ab : Nat
 bs : Nat → Nat
 cs : List AV
def Lay.W (L : Lay) (n c : Nat) : Prop := c = L.ib ∨ c = L.rb ∨ ∃ j, j < n ∧ c = L.bs j
def Lay.fn (L : Lay) : AV := .fn 156 [] [.ptr L.sb 0, .ptr L.ob 0, .ptr L.fb 0, .ptr L.mb 0, .ptr L.kb 0]
structure Laid (L : Lay) (S0 S1 : St) (n : Nat) (mv : AV) : Prop where
 s01 : Same S0 S1
 gs : S1.h.get L.sb = some (.cells [.ptr L.wb 0] false 0)
 go : S1.h.get L.ob = some (.cells [.sl L.ib 0 n n false, .sl L.ab 0 n n false] false 0)
 gf : S1.h.get L.fb = some (.cells [.sl L.rb 0 n n false] false 0)
 gm : S1.h.get L.mb = some (.cells [mv] false 0)
 gk : S1.h.get L.kb = some (.cells [L.fn] false 0)
 ga : S1.h.get L.ab = some (.cells L.cs false 0)
 ls : L.sb < S1.nx ∧ ¬ L.W n L.sb
 lo : L.ob < S1.nx ∧ ¬ L.W n L.ob
 lf : L.fb < S1.nx ∧ ¬ L.W n L.fb
 lm : L.mb < S1.nx ∧ ¬ L.W n L.mb
 lk : L.kb < S1.nx ∧ ¬ L.W n L.kb
 la : L.ab < S1.nx ∧ ¬ L.W n L.ab
 w0 : ∀ b, L.W n b → S0.nx ≤ b ∧ b < S1.nx
 ir : L.ib ≠ L.rb
 is : ∀ j, j < n → L.ib ≠ L.bs j ∧ L.rb ≠ L.bs j
structure Dyn (L : Lay) (S0 X : St) (I F : List Int) (A : List (List Int)) : Prop where
 gi : X.h.get L.ib = some (.cells (bB I) false 0)
 gr : X.h.get L.rb = some (.cells (bB F) false 0)
 rw : Rws S0 X L.bs L.cs A
section
variable {L : Lay} {S0 S1 X Y : St} {n : Nat} {mv : AV} {I F : List Int} {A : List (List Int)}
theorem Laid.s (h : Laid L S0 S1 n mv) (hX : iS (L.W n) S1 X) : X.h.get L.sb = some (.cells [.ptr L.wb 0] false 0) := (hX.2 _ h.ls.1 h.ls.2).trans h.gs
theorem Laid.o (h : Laid L S0 S1 n mv) (hX : iS (L.W n) S1 X) : X.h.get L.ob = some (.cells [.sl L.ib 0 n n false, .sl L.ab 0 n n false] false 0) := (hX.2 _ h.lo.1 h.lo.2).trans h.go
theorem Laid.f (h : Laid L S0 S1 n mv) (hX : iS (L.W n) S1 X) : X.h.get L.fb = some (.cells [.sl L.rb 0 n n false] false 0) := (hX.2 _ h.lf.1 h.lf.2).trans h.gf
theorem Laid.m (h : Laid L S0 S1 n mv) (hX : iS (L.W n) S1 X) : X.h.get L.mb = some (.cells [mv] false 0) := (hX.2 _ h.lm.1 h.lm.2).trans h.gm
theorem Laid.k (h : Laid L S0 S1 n mv) (hX : iS (L.W n) S1 X) : X.h.get L.kb = some (.cells [L.fn] false 0) := (hX.2 _ h.lk.1 h.lk.2).trans h.gk
theorem Laid.a (h : Laid L S0 S1 n mv) (hX : iS (L.W n) S1 X) : X.h.get L.ab = some (.cells L.cs false 0) := (hX.2 _ h.la.1 h.la.2).trans h.ga
theorem Laid.same (h : Laid L S0 S1 n mv) (hX : iS (L.W n) S1 X) : Same S0 X := hX.same h.s01 fun b hb => (h.w0 b hb).1
theorem Laid.move (h : Laid L S0 S1 n mv) (hX : iS (L.W n) S1 X) : Laid L S0 X n mv :=
 ⟨h.same hX, h.s hX, h.o hX, h.f hX, h.m hX, h.k hX, h.a hX, ⟨Ae h.ls.1 hX.1, h.ls.2⟩, ⟨Ae h.lo.1 hX.1, h.lo.2⟩, ⟨Ae h.lf.1 hX.1, h.lf.2⟩, ⟨Ae h.lm.1 hX.1, h.lm.2⟩, ⟨Ae h.lk.1 hX.1, h.lk.2⟩, ⟨Ae h.la.1 hX.1, h.la.2⟩, fun b hb => ⟨(h.w0 b hb).1, Ae (h.w0 b hb).2 hX.1⟩, h.ir, h.is⟩
theorem Dyn.same (h : Dyn L S0 X I F A) (hL : Laid L S0 S1 n mv) (h1 : S1.nx ≤ X.nx) (hs : Same X Y) : Dyn L S0 Y I F A :=
 ⟨(hs.2 _ (Ae (hL.w0 _ (.inl rfl)).2 h1)).trans h.gi, (hs.2 _ (Ae (hL.w0 _ (.inr (.inl rfl))).2 h1)).trans h.gr, h.rw.same hs⟩
end
def WkT (L : Lay) (F : Fr) (xb yb to : Nat) : Prop := aC 1 F = .int .i64 (to : Int) ∧ aC 2 F = .ptr L.sb 0 ∧ aC 3 F = .ptr L.ob 0 ∧ aC 4 F = .ptr L.fb 0 ∧ aC 5 F = .ptr L.mb 0 ∧ aC 6 F = .ptr L.kb 0 ∧ aC 10 F = .ptr xb 0 ∧ aC 11 F = .ptr yb 0
def KdT (L : Lay) (F : Fr) (xb yb to j r v ln : Nat) (xa : AV) (b : Bool) : Prop := WkT L F xb yb to ∧ aC 12 F = .bool b ∧ aC 13 F = .int .i64 (j : Int) ∧ aC 14 F = .int .i64 (r : Int) ∧ aC 15 F = .int .i64 (v : Int) ∧ aC 88 F = xa ∧ aC 89 F = .int .i64 (ln : Int) ∧ aC 90 F = .int .i64 (j : Int)
noncomputable def agC : List AO := [mt 130 12,
om 131 1 (.mv (.t 130)),
og 132 131 true 3 (.faddr 1 (.t 3)),
og 133 131 true 7 (ld 132),
og 134 131 true 3 (.faddr 2 (.t 10)),
og 135 131 true 19 (ld 134),
og 136 131 true 63 (.iaddr (.slice 1) (.t 133) (.t 135)),
og 137 131 true 127 (ld 136),
og 138 131 true 3 (.mv (.t 13)),
og 139 131 true 3 (ld 2),
og 140 131 true 515 (.nilchk (.t 139)),
og 141 131 true 1539 (.faddr 4 (.t 140)),
og 142 131 true 3587 (ld 141),
og 143 131 true 3 (.mv (.t 15)),
og 144 131 true 15875 (.iaddr (.slice 1) (.t 142) (.t 143)),
og 145 131 true 32259 (ld 144)]
def WkF (L : Lay) (S1 : St) (g : bF) (m : List Int) (A : bT) (X : St) : Prop := iS (L.W g.infos.length) S1 X ∧ ¬ lG g m ∧ aC 9 A.F = .bool false
def aM4 (L : Lay) (S0 S1 : St) (g : bF) (m : List Int) (i e xb yb : Nat) (xa : AV) (cx cy : Option AB) (rec : Nat → Option (List cE)) (k : Nat) (A : bT) (X : St) : Prop := A.inr = false ∧ iS (L.W g.infos.length) S1 X ∧ xb < X.nx ∧ yb < X.nx ∧ ∃ (j r : Nat) (Tr : List cE) (I F : List Int) (As : List (List Int)), j + k = (nodeAt g i).next.length ∧ fI rec ((nodeAt g i).next.drop j) r = some Tr ∧ r + Tr.length = e ∧ Dyn L S0 X I F As ∧ gP g m r r I F As ∧ WkT L A.F xb yb (eK m i) ∧ X.h.get xb = cx ∧ X.h.get yb = cy ∧ aC 12 A.F = .bool (decide ((nodeAt g i).kind = 2)) ∧ aC 88 A.F = xa ∧ aC 89 A.F = .int .i64 (((nodeAt g i).next.length : Nat) : Int) ∧ aC 90 A.F = .int .i64 (j : Int)
theorem aF4 {S0 : St} {L : Lay} {nv iv pv mv : AV} {g : bF} {m : List Int} {T : List cE} {Z : List Int} {plb szb : Nat} (H : Has fns) (hn : aM 6 cL S0 nv g.nodes) (hm : bO .i64 S0 mv m) (G : dT g) (M : rN g m) (hTl : T.length = g.nodes.length) (hW : WF (dN g) 0 (-1) T) (hpv : bO .i64 S0 pv (T.map (·.1))) (hB : iE S0 L.wb plb szb pv nv iv g (kC g) Z):
  ∀ (f : Nat) {X : St} {i : Nat} {p d : Int} {T' : List cE} {I F : List Int} {A : List (List Int)}, eS g.nodes.length (dN g) f i p d = some T' → Laid L S0 X g.infos.length mv → Dyn L S0 X I F A → gP g m i (i + 1) I F A →
  iM fns L.fn [.int .i64 (i : Int), .int .i64 ((eK m i : Nat) : Int)] X fun r X' => iS (L.W g.infos.length) X X' ∧ ∃ t, r = .bool t ∧ (t = false → ¬ lG g m) ∧ (t = true → ∃ I' F' A', Dyn L S0 X' I' F' A' ∧ gP g m (i + T'.length) (i + T'.length) I' F' A') := by
 have hN := G.n2
 have hNI := G.ni
 intro f
 induction f with
 | zero => intro X i p d T' I F A hT'; cases hT'
 | succ f ih =>
  intro X i p d T' I F A hT' C hD hS
  have hX : iS (L.W g.infos.length) X X := iS.refl _ _
  simp only [eS] at hT'
  split at hT'
  rotate_left
  ·cases hT'
  rename_i hlt
  obtain ⟨L', hkids, rfl⟩ := Aw.1 hT'
  rw [iA] at hkids
  have lX := hX.1
  have sX : Same S0 X := C.same hX
  have hWB := (hB.w.same sX).1
  have lwX := (hB.w.same sX).2
  have lds := cS (p := 0) (C.s hX) rfl
  have lsX : L.sb < X.nx := Ae C.ls.1 lX
  obtain ⟨hto, htoN⟩ := M.at hlt
  obtain ⟨_, bx, qx, hiax, hbx, _, ⟨xa, xw, xp, rfl, hxa, hxw, hxp⟩, hldx, _⟩ := aM.at hn (by decide) (dI hlt)
  obtain ⟨_, by', qy, hiay, hby, _, ⟨ya, yw, yp, rfl, hya, hyw, hyp⟩, hldy, _⟩ := aM.at hn (by decide) (dI htoN)
  rw [← qY sX hbx] at hldx
  rw [← qY sX hby] at hldy
  have snv := aM.self hn
  have sx := pV (k := .i64) (x0 := (nodeAt g i).kind) (x1 := (nodeAt g i).player) (x2 := (nodeAt g i).info) (bO.self hxa) (bO.self hxw) (bO.self hxp)
  have sy := pV (k := .i64) (x0 := (nodeAt g (eK m i)).kind) (x1 := (nodeAt g (eK m i)).player) (x2 := (nodeAt g (eK m i)).info) (bO.self hya) (bO.self hyw) (bO.self hyp)
  have lbx : bx < X.nx := Ae hbx sX.1
  have lby : by' < X.nx := Ae hby sX.1
  show iM fns (.fn 156 [] [.ptr L.sb 0, .ptr L.ob 0, .ptr L.fb 0, .ptr L.mb 0, .ptr L.kb 0]) _ _ _
  refine cV H.f156 (by simp) ?_
  simp only [↓sU,sD,rE,↓reduceIte,rA]
  refine cF ?_
  simp only [↓sU,sD,rE,↓reduceIte,rA]
  refine aD (wJ (fun _ => False) ?_)
  simp only [↓sU,sD,rE,↓reduceIte,rA, lds, lsX, Ax, aS, bH, aR, aA, aO, aB, eY hWB, lwX, snv, aG, hiax, hldx, sx, lbx, hiay, hldy, sy, lby, tA]
  refine aHY (n := 6) rfl rfl rfl (by simp only [↓sU,sD,rE,↓reduceIte,rA]) (by simp only [↓sU,sD,rE,↓reduceIte,rA]) (by simp only [↓sU,sD,rE,↓reduceIte,rA]; exact bK _) (by simp only [↓sU,sD,rE,↓reduceIte,rA]; exact bK _) rfl rfl rfl (by omega) (by omega) (by omega) ?_
  intro X1 hX1n hgx hgy hX1
  rw [cA]
  have hX1n : X1.nx = X.nx + 20 := hX1n
  have sX1 : Same X X1 := ⟨by omega, fun c hc => hX1 c (by omega) (by omega)⟩
  have lx1 : X.nx + 16 < X1.nx := by omega
  have ly1 : X.nx + 17 < X1.nx := by omega
  show kH fns _ _ X1 _
  refine aD (aD (bN (Q := fun o A' Y => o = .normal ∧ A'.inr = false ∧ Same X1 Y ∧ WkT L A'.F (X.nx + 16) (X.nx + 17) (eK m i) ∧ ∃ t, aC 60 A'.F = .bool t ∧ (t = true ↔ ¬ aB8 g m i)) (aP ?_) ?_))
  ·have sX1' := sX.trans sX1
   have hxa1 := hxa.same sX1'
   have hya1 := hya.same sX1'
   have hxp1 := hxp.same sX1'
   have hyp1 := hyp.same sX1'
   by_cases q1 : (nodeAt g i).kind = (nodeAt g (eK m i)).kind
   rotate_left
   ·simp only [↓sU,sD,rE,↓reduceIte,rA, aA, aB, fD hgx, fD hgy, Ad (show (nodeAt g i).kind ≠ (nodeAt g (eK m i)).kind from q1), WkT]
    exact ⟨Same.refl _, true, rfl, fun _ h => q1 h.1, fun _ => rfl⟩
   have q1' := Aa (show ¬ (nodeAt g i).kind ≠ (nodeAt g (eK m i)).kind from fun h => h q1)
   by_cases q4 : (nodeAt g i).player = (nodeAt g (eK m i)).player
   rotate_left
   ·simp only [↓sU,sD,rE,↓reduceIte,rA, aA, aB, fD hgx, fD hgy, eY hgx, eY hgy, q1', Ad (show (nodeAt g i).player ≠ (nodeAt g (eK m i)).player from q4), WkT]
    exact ⟨Same.refl _, true, rfl, fun _ h => q4 h.2.2.2, fun _ => rfl⟩
   have q4' := Aa (show ¬ (nodeAt g i).player ≠ (nodeAt g (eK m i)).player from fun h => h q4)
   by_cases q2 : (nodeAt g i).next.length = (nodeAt g (eK m i)).next.length
   rotate_left
   ·simp only [↓sU,sD,rE,↓reduceIte,rA, aA, aB, fD hgx, fD hgy, eY hgx, eY hgy, eV hgx, eV hgy, hxa1.len, hya1.len, Aj, q1', q4', Ad (show (((nodeAt g i).next.length : Nat) : Int) ≠ (((nodeAt g (eK m i)).next.length : Nat) : Int) by omega), WkT]
    exact ⟨Same.refl _, true, rfl, fun _ h => q2 h.2.1, fun _ => rfl⟩
   simp only [↓sU,sD,rE,↓reduceIte,rA, aA, aB, fD hgx, fD hgy, eY hgx, eY hgy, eV hgx, eV hgy, gI hgx, gI hgy, hxa1.len, hya1.len, Aj, q1', q4', Aa (show ¬ (((nodeAt g i).next.length : Nat) : Int) ≠ (((nodeAt g (eK m i)).next.length : Nat) : Int) by omega), WkT]
   refine bJ ?_
   simp only [↓sU,sD,rE,↓reduceIte,rA]
   refine aW (uM H hxp1 hyp1 (by have := G.pay i hlt; omega)) ?_
   rintro _ Y ⟨rfl, hY⟩
   simp only [↓sU,sD,rE,↓reduceIte,rA, gS]
   refine ⟨hY, _, rfl, ?_⟩
   by_cases q3 : (nodeAt g i).pay = (nodeAt g (eK m i)).pay
   ·rw [Ad q3]
    exact ⟨fun h => (by cases h), fun h => absurd ⟨q1, q2, q3, q4⟩ h⟩
   ·rw [Aa q3]
    exact ⟨fun _ h => q3 h.2.2.1, fun _ => rfl⟩
  rintro o ⟨F0, inr⟩ Y ⟨rfl, q0, hY, hP, t, p60, hLt⟩
  simp only at q0 hP p60
  subst q0
  obtain ⟨p1, p2, p3, p4, p5, p6, p10, p11⟩ := hP
  have sXY := sX1.trans hY
  have bY : iS (L.W g.infos.length) X Y := hX.trans (Same.butW sXY)
  try simp only [↓sU,sD,rE,↓reduceIte,rA]
  cases t with
  | true =>
   refine aY (by simp only [↓sU,sD,rE,↓reduceIte,rA, p60]) ?_
   refine cF ?_
   simp only [↓sU,sD,rE,↓reduceIte,rA]
   refine bD ?_
   simp only [↓sU,sD,rE,↓reduceIte,rA]
   exact ⟨bY, false, rfl, fun _ => aKs hlt (hLt.1 rfl), fun h => by cases h⟩
  | false =>
  have hL : aB8 g m i := Classical.byContradiction fun h => by have := hLt.2 h; cases this
  refine aT (by simp only [↓sU,sD,rE,↓reduceIte,rA, p60]) (aN ?_)
  try simp only [↓sU,sD,rE,↓reduceIte,rA]
  clear p60 hLt
  have hDY : Dyn L S0 Y I F A := hD.same C lX sXY
  have hgxY := (hY.2 _ lx1).trans hgx
  have hgyY := (hY.2 _ ly1).trans hgy
  have lxY : X.nx + 16 < Y.nx := Ae lx1 hY.1
  have lyY : X.nx + 17 < Y.nx := Ae ly1 hY.1
  have nWx : ∀ {b}, X.nx ≤ b → ¬ L.W g.infos.length b := fun {b} hb hw => by have := (C.w0 b hw).2; omega
  clear hgx hgy hX1 hX1n hldx hldy
  refine cF ?_
  simp only [↓sU,sD,rE,↓reduceIte,rA, p10, aA, aB, fD hgxY]
  refine aD (bN (Q := fun o A' Z => (o = .normal ∧ A'.inr = false ∧ iS (L.W g.infos.length) X Z ∧ iS (L.W g.infos.length) Y Z ∧ (∃ I' F', Dyn L S0 Z I' F' A ∧ gP g m (i + 1) (i + 1) I' F' A) ∧ WkT L A'.F (X.nx + 16) (X.nx + 17) (eK m i) ∧ aC 12 A'.F = .bool (decide ((nodeAt g i).kind = 2))) ∨ (o = .ret ∧ WkF L X g m A' Z)) (aD (bN (Q := fun o A' Z => o = .normal ∧ A'.inr = false ∧ iS (L.W g.infos.length) X Z ∧ iS (L.W g.infos.length) Y Z ∧ WkT L A'.F (X.nx + 16) (X.nx + 17) (eK m i) ∧ aC 12 A'.F = .bool (decide ((nodeAt g i).kind = 2)) ∧ ∃ t, aC 86 A'.F = .bool t ∧ (t = true → ¬ lG g m) ∧ (t = false → ∃ I' F', Dyn L S0 Z I' F' A ∧ gP g m (i + 1) (i + 1) I' F' A)) (aP ?_) ?_)) ?_)
  ·by_cases hk : (nodeAt g i).kind = 2
   rotate_left
   ·simp only [↓sU,sD,rE,↓reduceIte,rA, Aa hk, WkT, p1, p2, p3, p4, p5, p6, p10, p11]
    exact ⟨bY, iS.refl _ _, false, rfl, fun h => (by cases h), fun _ => ⟨I, F, hDY, hS.node hL hk⟩⟩
   obtain ⟨a1, a2, a3⟩ := G.inf i hlt hk
   obtain ⟨c1, c2⟩ := qA G M hlt hL hk
   have hsI : (nodeAt g i).info.toNat < I.length := by rw [hS.s.li]; omega
   have hsF : (nodeAt g (eK m i)).info.toNat < F.length := by rw [hS.lf]; omega
   have rI : uR L.ib I = .sl L.ib 0 g.infos.length g.infos.length false := by unfold uR; rw [hS.s.li]
   have rF : uR L.rb F = .sl L.rb 0 g.infos.length g.infos.length false := by unfold uR; rw [hS.lf]
   have lo0 := ldc (j := 0) (C.o bY) rfl
   have lf0 := cS (p := 0) (C.f bY) rfl
   simp only [↓sU,sD,rE,↓reduceIte,rA, Ad hk, p3, p10, p11, aA, aB, lo0, fP hgxY, fP hgyY]
   refine bJ ?_
   simp only [↓sU,sD,rE,↓reduceIte,rA]
   have hag := uG (v := (nodeAt g (eK m i)).info) H hDY.gi a1 hsI
   rw [rI] at hag
   refine aW hag ?_
   rintro _ Y2 ⟨hY2, t, rfl, ht1, ht0⟩
   have wib : L.W g.infos.length L.ib := .inl rfl
   have bY2 := bY.trans (hY2.butW wib)
   cases t with
   | false =>
    simp only [↓sU,sD,rE,↓reduceIte,rA, gS, Ea, WkT, p1, p2, p3, p4, p5, p6, p10, p11, Ad hk]
    exact ⟨bY2, hY2.butW wib, true, rfl, fun _ => hS.s.no_info G hlt hk (ht0 rfl).1 (ht0 rfl).2, fun h => by cases h⟩
   | true =>
   obtain ⟨gi2, hI⟩ := ht1 rfl
   have xgY2 : Y2.h.get (X.nx + 16) = _ := (hY2.2 _ lxY (fun e => nWx (b := X.nx + 16) (by omega) (by rw [e]; exact wib))).trans hgxY
   have ygY2 : Y2.h.get (X.nx + 17) = _ := (hY2.2 _ lyY (fun e => nWx (b := X.nx + 17) (by omega) (by rw [e]; exact wib))).trans hgyY
   have lf2 := cS (p := 0) (C.f bY2) rfl
   simp only [↓sU,sD,rE,↓reduceIte,rA, gS, De, p4, p10, p11, aA, aB, lf2, fP xgY2, fP ygY2]
   refine bJ ?_
   simp only [↓sU,sD,rE,↓reduceIte,rA]
   have wrb : L.W g.infos.length L.rb := .inr (.inl rfl)
   have lrb : L.rb < Y.nx := Ae (C.w0 _ wrb).2 bY.1
   have lib : L.ib < Y.nx := Ae (C.w0 _ wib).2 bY.1
   have gr2 := (hY2.2 _ lrb (Cr C.ir)).trans hDY.gr
   have hag2 := uG (v := (nodeAt g i).info) H gr2 c1 hsF
   rw [rF] at hag2
   refine aW hag2 ?_
   rintro _ Y3 ⟨hY3, t, rfl, ht1, ht0⟩
   have bY3 := bY2.trans (hY3.butW wrb)
   have bYY3 := (hY2.butW wib).trans (hY3.butW wrb)
   cases t with
   | false =>
    simp only [↓sU,sD,rE,↓reduceIte,rA, gS, Ea, WkT, p1, p2, p3, p4, p5, p6, p10, p11, Ad hk]
    exact ⟨bY3, bYY3, true, rfl, fun _ => hS.no_from G M hlt hL hk (ht0 rfl).1 (ht0 rfl).2, fun h => by cases h⟩
   | true =>
   obtain ⟨gr3, hF⟩ := ht1 rfl
   simp only [↓sU,sD,rE,↓reduceIte,rA, gS, De, WkT, p1, p2, p3, p4, p5, p6, p10, p11, Ad hk]
   refine ⟨bY3, bYY3, false, rfl, fun h => (by cases h), fun _ => ⟨_, _, ⟨?_, gr3, hDY.rw.move bYY3.1 fun j hj => ?_⟩, hS.nodeM G M hlt hL hk hI hF⟩⟩
   ·rw [hY3.2 _ (Ae lib hY2.1) C.ir]; exact gi2
   ·have hjn : j < g.infos.length := by rw [← hS.s.la]; exact hj
    have ljb := (hDY.rw.bl j hj).2.1
    rw [hY3.2 _ (Ae ljb hY2.1) (Cr (C.is j hjn).2), hY2.2 _ ljb (Cr (C.is j hjn).1)]
  ·clear p1 p2 p3 p4 p5 p6 p10 p11
   rintro o ⟨F1, inr⟩ Z ⟨rfl, q0, bZ, bYZ, hP, p12, t, p86, ht1, ht0⟩
   simp only at q0 hP p12 p86
   subst q0
   obtain ⟨p1, p2, p3, p4, p5, p6, p10, p11⟩ := hP
   try simp only [↓sU,sD,rE,↓reduceIte,rA]
   cases t with
   | true =>
    refine aY (by simp only [↓sU,sD,rE,↓reduceIte,rA, p86]) ?_
    refine cF ?_
    simp only [↓sU,sD,rE,↓reduceIte,rA]
    refine bD ?_
    refine .inr ⟨rfl, bZ, ht1 rfl, ?_⟩
    simp only [↓sU,sD,rE,↓reduceIte,rA]
   | false =>
    refine aT (by simp only [↓sU,sD,rE,↓reduceIte,rA, p86]) (aN ?_)
    exact .inl ⟨rfl, rfl, bZ, bYZ, ht0 rfl, ⟨p1, p2, p3, p4, p5, p6, p10, p11⟩, p12⟩
  clear p1 p2 p3 p4 p5 p6 p10 p11
  rintro o ⟨F1, inr⟩ Z (⟨rfl, q0, bZ, bYZ, ⟨I', F', hDZ, hSZ⟩, hP, p12⟩ | ⟨rfl, hf⟩)
  rotate_left
  ·obtain ⟨h1, h2, h3⟩ := hf
   simp only [↓sU,sD,rE,↓reduceIte,rA, h3]
   exact ⟨h1, false, rfl, fun _ => h2, fun h => by cases h⟩
  simp only at q0 hP p12
  subst q0
  obtain ⟨p1, p2, p3, p4, p5, p6, p10, p11⟩ := hP
  have exZ := (bYZ.2 _ lxY (nWx (by omega))).trans hgxY
  have eyZ := (bYZ.2 _ lyY (nWx (by omega))).trans hgyY
  have lxZ : X.nx + 16 < Z.nx := Ae lxY bYZ.1
  have lyZ : X.nx + 17 < Z.nx := Ae lyY bYZ.1
  clear hgxY hgyY lxY lyY hDY
  have sZ := C.same bZ
  have hxaZ := hxa.same sZ
  try simp only [↓sU,sD,rE,↓reduceIte,rA]
  refine jH ?_
  simp only [↓sU,sD,rE,↓reduceIte,rA, p10, aA, aB, eV exZ, hxaZ.len, Aj]
  refine bN (Q := fun o A' V => (o = .normal ∧ aM4 L S0 X g m i (i + (L'.length + 1)) (X.nx + 16) (X.nx + 17) xa (Z.h.get (X.nx + 16)) (Z.h.get (X.nx + 17)) (fun r => eS g.nodes.length (dN g) f r i (d + 1)) 0 A' V) ∨ (o = .ret ∧ WkF L X g m A' V)) (aU (cI (aM4 L S0 X g m i (i + (L'.length + 1)) (X.nx + 16) (X.nx + 17) xa (Z.h.get (X.nx + 16)) (Z.h.get (X.nx + 17)) (fun r => eS g.nodes.length (dN g) f r i (d + 1))) ?_ (nodeAt g i).next.length _ _ ⟨rfl, bZ, lxZ, lyZ, 0, i + 1, L', I', F', A, by omega, by rw [Dk]; exact hkids, by omega, hDZ, hSZ, (by simp only [↓sU,sD,rE,↓reduceIte,rA, WkT, p1, p2, p3, p4, p5, p6, p10, p11]), rfl, rfl, (by simp only [↓sU,sD,rE,↓reduceIte,rA, p12]), (by simp only [↓sU,sD,rE,↓reduceIte,rA]), (by simp only [↓sU,sD,rE,↓reduceIte,rA]), (by simp only [↓sU,sD,rE,↓reduceIte,rA])⟩)) ?_
  ·clear p1 p2 p3 p4 p5 p6 p10 p11 p12 hDZ hSZ hkids
   rintro k ⟨F2, inr⟩ V ⟨q0, bV, lxV, lyV, j, r, Tr, I2, F3, As, hjk, hkd, hre, hDV, hSV, hP, exV, eyV, p12, p88, p89, p90⟩
   simp only at q0 hP p12 p88 p89 p90
   subst q0
   rw [exZ] at exV
   rw [eyZ] at eyV
   obtain ⟨p1, p2, p3, p4, p5, p6, p10, p11⟩ := hP
   have sV := C.same bV
   refine cF ?_
   simp only [↓sU,sD,rE,↓reduceIte,rA, p89, p90]
   by_cases hj : j < (nodeAt g i).next.length
   rotate_left
   ·refine aD (aT (by simp only [↓sU,sD,rE,↓reduceIte,rA, Aa (show ¬ (j : Int) < (((nodeAt g i).next.length : Nat) : Int) by omega)]) (cC ?_))
    simp only [↓sU,sD,rE,↓reduceIte,rA]
    have hk0 : k = 0 := by omega
    subst hk0
    exact .inl ⟨rfl, bV, lxV, lyV, j, r, Tr, I2, F3, As, hjk, hkd, hre, hDV, hSV, (by simp only [↓sU,sD,rE,↓reduceIte,rA, WkT, p1, p2, p3, p4, p5, p6, p10, p11]), by rw [exV, exZ], by rw [eyV, eyZ], (by simp only [↓sU,sD,rE,↓reduceIte,rA, p12]), (by simp only [↓sU,sD,rE,↓reduceIte,rA, p88]), (by simp only [↓sU,sD,rE,↓reduceIte,rA, p89]), (by simp only [↓sU,sD,rE,↓reduceIte,rA, p90])⟩
   refine aD (aY (by simp only [↓sU,sD,rE,↓reduceIte,rA, Ad (show (j : Int) < (((nodeAt g i).next.length : Nat) : Int) by omega)]) (aN ?_))
   try simp only [↓sU,sD,rE,↓reduceIte,rA]
   have hxaV := hxa.same sV
   have hmV := hm.same sV
   have hpvV := hpv.same sV
   have hxwV := hxw.same sV
   have hywV := hyw.same sV
   have hBV := hB.same sV
   have hiac := hxaV.iaddr hj
   have hlac := hxaV.ld hj
   have hdr : (nodeAt g i).next.drop j = (nodeAt g i).next[j] :: (nodeAt g i).next.drop (j + 1) := Cj hj
   have hgd : (nodeAt g i).next.getD j 0 = (nodeAt g i).next[j] := by rw [Ac, Ab hj]; rfl
   rw [hdr, ← hgd] at hkd
   obtain ⟨hr1, hr2⟩ := G.kids i hlt j hj
   simp only [fI] at hkd
   split at hkd
   rotate_left
   ·cases hkd
   rename_i hc
   obtain ⟨L1, hw1, hkd⟩ := Cc.1 hkd
   obtain ⟨L2, hw2, rfl⟩ := Aw.1 hkd
   rw [Ah] at hre
   have hrN : r < g.nodes.length := by omega
   rw [hc] at hlac
   obtain ⟨hve, hvN⟩ := M.at hrN
   have hkp := aIT hW hTl M (i := i) (k := j) hlt (by rw [hc, Ba]; exact hrN)
   rw [hc, Ba] at hkp
   have lm0 := cS (p := 0) (C.m bV) rfl
   have hiam := hmV.iaddr (show r < m.length by rw [M.len]; exact hrN)
   have hlam := hmV.ld (show r < m.length by rw [M.len]; exact hrN)
   rw [hve] at hlam
   have ls0 := cS (p := 0) (C.s bV) rfl
   have hvp : eK m r < (T.map (·.1)).length := by rw [Av, hTl]; exact hvN
   have hiap := hpvV.iaddr hvp
   have hlap := hpvV.ld hvp
   have hWV := hBV.w.1
   have w1 : IntKind.i64.wrap ((j : Int) + 1) = ((j + 1 : Nat) : Int) := by have := G.nxt i hlt; rw [wrap_i64 (by omega) (by omega)]; omega
   refine aD (aU (aD (aP ?_)))
   simp only [↓sU,sD,rE,↓reduceIte,rA, p88, p90, aG, hiac, hlac]
   refine cF ?_
   simp only [↓sU,sD,rE,↓reduceIte,rA, p5, lm0, aG, hiam, hlam]
   refine jH ?_
   simp only [↓sU,sD,rE,↓reduceIte,rA, p1, p2, ls0, aS, aR, aA, aB, eV hWV, aG, hiap, hlap]
   by_cases hpar : (T.map (·.1)).getD (eK m r) 0 = ((eK m i : Nat) : Int)
   rotate_left
   ·refine aY (by simp only [↓sU,sD,rE,↓reduceIte,rA, Ad (show (T.map (·.1)).getD (eK m r) 0 ≠ ((eK m i : Nat) : Int) from hpar)]) ?_
    refine cF ?_
    simp only [↓sU,sD,rE,↓reduceIte,rA]
    refine bD ?_
    refine .inr ⟨rfl, bV, aLr hlt hj (hkp.2 hpar), ?_⟩
    simp only [↓sU,sD,rE,↓reduceIte,rA]
   refine aT (by simp only [↓sU,sD,rE,↓reduceIte,rA, Aa (show ¬ (T.map (·.1)).getD (eK m r) 0 ≠ ((eK m i : Nat) : Int) from fun h => h hpar)]) (aN ?_)
   try simp only [↓sU,sD,rE,↓reduceIte,rA]
   obtain ⟨hz0, hzp⟩ := hkp.1 hpar
   clear hkp hpar hiap hlap hvp hiac hlac hiam hlam
   refine aD (bN (Q := fun o A' W => (o = .normal ∧ A'.inr = false ∧ W = ⟨V.h, V.nx + 22⟩ ∧ KdT L A'.F (X.nx + 16) (X.nx + 17) (eK m i) j r (eK m r) (nodeAt g i).next.length xa (decide ((nodeAt g i).kind = 2)) ∧ aA8 g m i j) ∨ (o = .ret ∧ WkF L X g m A' W)) (aD (gE ?_)) ?_)
   ·by_cases k1 : (nodeAt g i).kind = 1
    ·have k2 : (nodeAt g (eK m i)).kind = 1 := by rw [← hL.1]; exact k1
     have hzl := aKA hz0
     have hnz := aAy (k := .i64) hz0
     have l1 : j < (nodeAt g i).weights.length := by rw [G.wts i hlt k1]; exact hj
     have l2 : (fC g m i j).toNat < (nodeAt g (eK m i)).weights.length := by rw [G.wts _ htoN k2]; exact hzl
     have i1 := hxwV.iaddr l1
     have i2 := hxwV.ld l1
     have i3 := hywV.iaddr l2
     have i4 := hywV.ld l2
     have i5 := fV (b := plb) (o := false) hvN
     have i6 := aBV hBV.gp (show eK m r < (kC g).length by rw [hBV.lp]; exact hvN)
     rw [← hzp] at i6
     have sxw := bO.self hxw
     have syw := bO.self hyw
     by_cases c2 : (nodeAt g i).weights.getD j 0 = (nodeAt g (eK m i)).weights.getD (fC g m i j).toNat 0
     ·simp only [↓sU,sD,rE,↓reduceIte,rA, p2, p10, p11, aS, bH, aR, aA, aO, aB, fD exV, fL exV, fL eyV, fL hWV, ls0, Ad k1, sxw, syw, aG, hnz, i1, i2, i3, i4, i5, i6, Aa (show ¬ (nodeAt g i).weights.getD j 0 ≠ (nodeAt g (eK m i)).weights.getD (fC g m i j).toNat 0 from fun h => h c2)]
      refine aT (by simp only [↓sU,sD,rE,↓reduceIte,rA]) (aN ?_)
      refine .inl ⟨rfl, rfl, rfl, ?_, fun _ => c2⟩
      simp only [↓sU,sD,rE,↓reduceIte,rA, KdT, WkT, p1, p2, p3, p4, p5, p6, p10, p11, p12, p88, p89, p90, and_self]
     ·simp only [↓sU,sD,rE,↓reduceIte,rA, p2, p10, p11, aS, bH, aR, aA, aO, aB, fD exV, fL exV, fL eyV, fL hWV, ls0, Ad k1, sxw, syw, aG, hnz, i1, i2, i3, i4, i5, i6, Ad (show (nodeAt g i).weights.getD j 0 ≠ (nodeAt g (eK m i)).weights.getD (fC g m i j).toNat 0 from c2)]
      refine aY (by simp only [↓sU,sD,rE,↓reduceIte,rA]) ?_
      refine cF ?_
      simp only [↓sU,sD,rE,↓reduceIte,rA]
      refine bD ?_
      refine .inr ⟨rfl, bV.trans (Same.butW (Same.nx _ _)), aIS hlt hj (fun h => c2 (h k1)), ?_⟩
      simp only [↓sU,sD,rE,↓reduceIte,rA]
    ·simp only [↓sU,sD,rE,↓reduceIte,rA, p10, aA, aO, aB, fD exV, Aa k1]
     refine aT (by simp only [↓sU,sD,rE,↓reduceIte,rA]) (aN ?_)
     refine .inl ⟨rfl, rfl, rfl, ?_, fun h => absurd h k1⟩
     simp only [↓sU,sD,rE,↓reduceIte,rA, KdT, WkT, p1, p2, p3, p4, p5, p6, p10, p11, p12, p88, p89, p90, and_self]
   clear p1 p2 p3 p4 p5 p6 p10 p11 p12 p88 p89 p90
   rintro o ⟨F2, inr⟩ W (⟨rfl, q0, rfl, hP, hwe⟩ | ⟨rfl, hf⟩)
   rotate_left
   ·simp only [↓sU,sD,rE,↓reduceIte,rA]
    exact .inr hf
   simp only at q0 hP
   subst q0
   obtain ⟨⟨p1, p2, p3, p4, p5, p6, p10, p11⟩, p12, p13, p14, p15, p88, p89, p90⟩ := hP
   have sW := Same.nx V 22
   have bW := bV.trans (Same.butW sW)
   have hDW : Dyn L S0 ⟨V.h, V.nx + 22⟩ I2 F3 As := hDV.same C bV.1 sW
   try simp only [↓sU,sD,rE,↓reduceIte,rA]
   refine aD (bN (Q := fun o A' U => (o = .normal ∧ A'.inr = false ∧ iS (L.W g.infos.length) X U ∧ iS (L.W g.infos.length) V U ∧ KdT L A'.F (X.nx + 16) (X.nx + 17) (eK m i) j r (eK m r) (nodeAt g i).next.length xa (decide ((nodeAt g i).kind = 2)) ∧ ∃ As', Dyn L S0 U I2 F3 As' ∧ gP g m r (r + 1) I2 F3 As') ∨ (o = .ret ∧ WkF L X g m A' U)) (aD (bN (Q := fun o A' U => o = .normal ∧ A'.inr = false ∧ iS (L.W g.infos.length) X U ∧ iS (L.W g.infos.length) V U ∧ KdT L A'.F (X.nx + 16) (X.nx + 17) (eK m i) j r (eK m r) (nodeAt g i).next.length xa (decide ((nodeAt g i).kind = 2)) ∧ ∃ t, aC 148 A'.F = .bool t ∧ (t = true → ¬ lG g m) ∧ (t = false → ∃ As', Dyn L S0 U I2 F3 As' ∧ gP g m r (r + 1) I2 F3 As')) ?_ ?_)) ?_)
   ·by_cases hk : (nodeAt g i).kind = 2
    rotate_left
    ·refine wJ (fun _ => False) ?_
     simp only [↓sU,sD,rE,↓reduceIte,rA, p12, Aa hk]
     refine ⟨bW.trans (Same.butW (Same.nx _ _)), (Same.butW sW).trans (Same.butW (Same.nx _ _)), ?_, false, rfl, fun h => (by cases h), fun _ => ⟨As, ?_, hSV.kid G hlt hj hc hz0 hwe hk⟩⟩
     ·simp only [↓sU,sD,rE,↓reduceIte,rA, KdT, WkT, p1, p2, p3, p4, p5, p6, p10, p11, p12, p13, p14, p15, p88, p89, p90, Aa hk, and_self]
     ·exact hDW.same C bW.1 (Same.nx _ _)
    obtain ⟨a1, a2, a3⟩ := G.inf i hlt hk
    have hni := aAy (k := .i64) a1
    have hs : (nodeAt g i).info.toNat < g.infos.length := by omega
    have hsA : (nodeAt g i).info.toNat < As.length := by rw [hSV.s.la]; exact hs
    have hls := hSV.s.ls _ hs
    rw [show (((nodeAt g i).info.toNat : Nat) : Int) = (nodeAt g i).info by omega, a3] at hls
    have hkA : j < (As.getD (nodeAt g i).info.toNat []).length := by omega
    have lo1 := ldc (j := 1) (C.o bV) rfl
    have hia := fV (b := L.ab) (o := false) hs
    have hld := cS (C.a bV) (hDV.rw.cl _ hsA)
    have srow : cO (uR (L.bs (nodeAt g i).info.toNat) (As.getD (nodeAt g i).info.toNat [])) (uR (L.bs (nodeAt g i).info.toNat) (As.getD (nodeAt g i).info.toNat [])) = true := mK ..
    have i5 := fV (b := plb) (o := false) hvN
    have i6 := aBV hBV.gp (show eK m r < (kC g).length by rw [hBV.lp]; exact hvN)
    rw [← hzp] at i6
    refine aKM (pre := agC) (K := 16) rfl rfl rfl rfl (by decide) rfl rfl ?_
    unfold agC
    simp only [↓sU,sD,rE,↓reduceIte,rA, p2, p3, p10, p12, p13, p15, Ad hk, aS, bH, aR, aA, aO, aB, lo1, fP exV, hni, hia, hld, srow, ls0, fL hWV, aG, i5, i6]
    have hag := uG (S := ⟨V.h, V.nx + 22 + 19⟩) (v := fC g m i j) (x := (j : Int)) H (hDV.rw.bl _ hsA).2.2 (by omega) (by rw [Ba]; exact hkA)
    rw [Ba] at hag
    refine aW hag ?_
    rintro _ U ⟨hU, t, rfl, ht1, ht0⟩
    have wbs : L.W g.infos.length (L.bs (nodeAt g i).info.toNat) := .inr (.inr ⟨_, hs, rfl⟩)
    have bVU : iS (L.W g.infos.length) V U := (Same.butW (Same.nx V (22 + 19))).trans (hU.butW wbs)
    have bU := bV.trans bVU
    refine ⟨.bool (!t), .bool (!t), ?_, ?_, bU, bVU, ?_, !t, ?_, ?_, ?_⟩
    ·simp only [↓sU,sD,rE,↓reduceIte,rA, gS]
    ·simp only [↓sU,sD,rE,↓reduceIte,rA]
    ·simp only [↓sU,sD,rE,↓reduceIte,rA, KdT, WkT, p1, p2, p3, p4, p5, p6, p10, p11, p12, p13, p14, p15, p88, p89, p90, Ad hk, and_self]
    ·simp only [↓sU,sD,rE,↓reduceIte,rA]
    ·intro h
     cases t with
     | true => cases h
     | false => exact hSV.no_act G hlt hk hj (ht0 rfl).1 (ht0 rfl).2
    ·intro h
     cases t with
     | false => cases h
     | true =>
     obtain ⟨gU, hA⟩ := ht1 rfl
     have lrow := hDV.rw.bl _ hsA
     have wib : L.W g.infos.length L.ib := .inl rfl
     have wrb : L.W g.infos.length L.rb := .inr (.inl rfl)
     have lrb : L.rb < V.nx := Ae (C.w0 _ wrb).2 bV.1
     have lib : L.ib < V.nx := Ae (C.w0 _ wib).2 bV.1
     have hU2 : ∀ c, c < V.nx → c ≠ L.bs (nodeAt g i).info.toNat → U.h.get c = V.h.get c := fun c hc hne => hU.2 c (by show c < V.nx + 22 + 19; omega) hne
     refine ⟨_, ⟨(hU2 _ lib (C.is _ hs).1).trans hDV.gi, (hU2 _ lrb (C.is _ hs).2).trans hDV.gr, ?_⟩, hSV.kidM G hlt hj hc hz0 hwe hk hA⟩
     refine (hDV.rw.put hsA (Af _)).move (show V.nx ≤ U.nx from bVU.1) fun q hq => ?_
     rw [Au] at hq
     simp only
     rw [Ev.T.get_set]
     split
     ·rename_i e; rw [e]; exact gU
     ·rename_i e; exact hU2 _ (hDV.rw.bl q hq).2.1 e
   ·clear p1 p2 p3 p4 p5 p6 p10 p11 p12 p13 p14 p15 p88 p89 p90
    rintro o ⟨F2, inr⟩ U ⟨rfl, q0, bU, bVU, hP, t, p148, ht1, ht0⟩
    simp only at q0 hP p148
    subst q0
    obtain ⟨⟨p1, p2, p3, p4, p5, p6, p10, p11⟩, p12, p13, p14, p15, p88, p89, p90⟩ := hP
    try simp only [↓sU,sD,rE,↓reduceIte,rA]
    cases t with
    | true =>
     refine aY (by simp only [↓sU,sD,rE,↓reduceIte,rA, p148]) ?_
     refine cF ?_
     simp only [↓sU,sD,rE,↓reduceIte,rA]
     refine bD ?_
     refine .inr ⟨rfl, bU, ht1 rfl, ?_⟩
     simp only [↓sU,sD,rE,↓reduceIte,rA]
    | false =>
     refine aT (by simp only [↓sU,sD,rE,↓reduceIte,rA, p148]) (aN ?_)
     exact .inl ⟨rfl, rfl, bU, bVU, ⟨⟨p1, p2, p3, p4, p5, p6, p10, p11⟩, p12, p13, p14, p15, p88, p89, p90⟩, ht0 rfl⟩
   clear p1 p2 p3 p4 p5 p6 p10 p11 p12 p13 p14 p15 p88 p89 p90
   rintro o ⟨F2, inr⟩ U (⟨rfl, q0, bU, bVU, hP, As', hDU, hSU⟩ | ⟨rfl, hf⟩)
   rotate_left
   ·simp only [↓sU,sD,rE,↓reduceIte,rA]
    exact .inr hf
   simp only at q0 hP
   subst q0
   obtain ⟨⟨p1, p2, p3, p4, p5, p6, p10, p11⟩, p12, p13, p14, p15, p88, p89, p90⟩ := hP
   have exU := (bVU.2 _ lxV (nWx (by omega))).trans exV
   have eyU := (bVU.2 _ lyV (nWx (by omega))).trans eyV
   have lxU : X.nx + 16 < U.nx := Ae lxV bVU.1
   have lyU : X.nx + 17 < U.nx := Ae lyV bVU.1
   have lk0 := cS (p := 0) (C.k bU) rfl
   try simp only [↓sU,sD,rE,↓reduceIte,rA]
   refine bN (Q := fun o A' R => (o = .normal ∧ A'.inr = false ∧ iS (L.W g.infos.length) X R ∧ iS (L.W g.infos.length) U R ∧ KdT L A'.F (X.nx + 16) (X.nx + 17) (eK m i) j r (eK m r) (nodeAt g i).next.length xa (decide ((nodeAt g i).kind = 2)) ∧ ∃ I'' F'' A'', Dyn L S0 R I'' F'' A'' ∧ gP g m (r + L1.length) (r + L1.length) I'' F'' A'') ∨ (o = .ret ∧ WkF L X g m A' R)) (aD (aP ?_)) ?_
   ·simp only [↓sU,sD,rE,↓reduceIte,rA, p6, p14, p15, lk0]
    refine bJ ?_
    simp only [↓sU,sD,rE,↓reduceIte,rA]
    refine aW (ih hw1 (C.move bU) hDU hSU) ?_
    rintro _ R ⟨bUR, t, rfl, ht0, ht1⟩
    simp only [↓sU,sD,rE,↓reduceIte,rA, gS]
    cases t with
    | false =>
     refine aY (by simp only [↓sU,sD,rE,↓reduceIte,rA, Ea]) ?_
     refine cF ?_
     simp only [↓sU,sD,rE,↓reduceIte,rA]
     refine bD ?_
     refine .inr ⟨rfl, bU.trans bUR, ht0 rfl, ?_⟩
     simp only [↓sU,sD,rE,↓reduceIte,rA]
    | true =>
     refine aT (by simp only [↓sU,sD,rE,↓reduceIte,rA, De]) (aN ?_)
     refine .inl ⟨rfl, rfl, bU.trans bUR, bUR, ?_, ht1 rfl⟩
     simp only [↓sU,sD,rE,↓reduceIte,rA, KdT, WkT, p1, p2, p3, p4, p5, p6, p10, p11, p12, p13, p14, p15, p88, p89, p90, and_self]
   clear p1 p2 p3 p4 p5 p6 p10 p11 p12 p13 p14 p15 p88 p89 p90
   rintro o ⟨F2, inr⟩ R (⟨rfl, q0, bR, bUR, hP, I4, F4, A4, hDR, hSR⟩ | ⟨rfl, hf⟩)
   rotate_left
   ·simp only [↓sU,sD,rE,↓reduceIte,rA]
    exact .inr hf
   simp only at q0 hP
   subst q0
   obtain ⟨⟨p1, p2, p3, p4, p5, p6, p10, p11⟩, p12, p13, p14, p15, p88, p89, p90⟩ := hP
   try simp only [↓sU,sD,rE,↓reduceIte,rA]
   refine aP ?_
   simp only [↓sU,sD,rE,↓reduceIte,rA, p90, w1]
   refine ⟨k - 1, by omega, rfl, bR, Ae lxU bUR.1, Ae lyU bUR.1, j + 1, r + L1.length, L2, I4, F4, A4, by omega, hw2, by omega, hDR, hSR, ?_, ?_, ?_, ?_, ?_, ?_, ?_⟩
   ·simp only [↓sU,sD,rE,↓reduceIte,rA, WkT, p1, p2, p3, p4, p5, p6, p10, p11, and_self]
   ·rw [bUR.2 _ lxU (nWx (by omega)), exU, exZ]
   ·rw [bUR.2 _ lyU (nWx (by omega)), eyU, eyZ]
   ·simp only [↓sU,sD,rE,↓reduceIte,rA, p12]
   ·simp only [↓sU,sD,rE,↓reduceIte,rA, p88]
   ·simp only [↓sU,sD,rE,↓reduceIte,rA, p89]
   ·simp only [↓sU,sD,rE,↓reduceIte,rA]
  clear p1 p2 p3 p4 p5 p6 p10 p11 p12
  rintro o ⟨F2, inr⟩ V (⟨rfl, q0, bV, lxV, lyV, j, r, Tr, I2, F3, As, hjk, hkd, hre, hDV, hSV, hP, exV, eyV, p12, p88, p89, p90⟩ | ⟨rfl, hf⟩)
  rotate_left
  ·obtain ⟨h1, h2, h3⟩ := hf
   simp only [↓sU,sD,rE,↓reduceIte,rA, h3]
   exact ⟨h1, false, rfl, fun _ => h2, fun h => by cases h⟩
  simp only at q0
  subst q0
  rw [Cv (by omega)] at hkd
  simp only [fI, Ar] at hkd
  subst hkd
  rw [Bz, Bj] at hre
  subst hre
  try simp only [↓sU,sD,rE,↓reduceIte,rA]
  refine cF ?_
  simp only [↓sU,sD,rE,↓reduceIte,rA]
  refine bD ?_
  simp only [↓sU,sD,rE,↓reduceIte,rA]
  exact ⟨bV, true, rfl, fun h => (by cases h), fun _ => ⟨I2, F3, As, hDV, hSV⟩⟩
theorem aHQ {F : Fr} {h : Ev.T AB} {s t : Nat} {x y : AV} (h1 : aC s F = x) (h2 : aC t F = y) (hx : x.cells = some [x]) (hy : y.cells = some [y]) : gR (.build [.nilsl, .nilsl] [(0, 1, .t s), (1, 1, .t t)]) F h = some (.agg [x, y]) := by
 show (bE (eF _ (dJ F [(0, 1, .t s), (1, 1, .t t)])) fun cs => some (AV.agg cs)) = _
 simp only [dJ, show (cK.t s).val F = x from h1, show (cK.t t).val F = y from h2, eF, hx, hy, aE]
 rfl
theorem aG7 {F : Fr} {h : Ev.T AB} : gR (.build [.nilsl, .nilsl] []) F h = some (.agg [.nilsl, .nilsl]) := rfl
theorem aLX {W : Nat → Prop} {h0 : Ev.T AB} {base : Nat} {F : Fr} {S : St} {Q : Fr → St → List gL → Prop} {i a b n m1 j1 j2 l : Nat} {za zb cy : List AV} {t2 u2 : cK} (ht1 : Nat.testBit m1 j1 = true) (ht2 : Nat.testBit m1 j2 = true) (hm2 : jX (some l) m1 = true)
  (h2 : t2.val F = .ptr b 0) (hu2 : (u2.val F).cells = some cy) (lz : zb.length = n) (ly : cy.length = n) (hab : a ≠ b) (hba : base ≤ a) (hbb : base ≤ b)
  (hr : ∀ S', S'.nx = S.nx → S'.h.get a = some (.cells za false 0) → S'.h.get b = some (.cells cy false 0) → (∀ c, c ≠ a → c ≠ b → S'.h.get c = S.h.get c) → Q F S' []) :
  fJ fns W h0 base [⟨none, .x (.st n t2 u2), none, m1⟩] i F S [⟨j2, b, .cells zb false 0⟩, ⟨j1, a, .cells za false 0⟩] (some l) Q := by
 have hf : cD m1 [⟨j2, b, .cells zb false 0⟩, ⟨j1, a, .cells za false 0⟩] S.h = ([], (S.h.set b (some (.cells zb false 0))).set a (some (.cells za false 0))) := by rw [kG ht2, kG ht1, cA]
 have hg2 : ((S.h.set b (some (.cells zb false 0))).set a (some (.cells za false 0))).get b = some (.cells zb false 0) := by rw [T.get_set, if_neg (Cr hab), T.get_set, if_pos rfl]
 have x2 := vL (S := ⟨(S.h.set b (some (.cells zb false 0))).set a (some (.cells za false 0)), S.nx⟩) (cs' := cy) (n := n) hg2 lz ly
 refine tD (S1 := ⟨((S.h.set b (some (.cells zb false 0))).set a (some (.cells za false 0))).set b (some (.cells cy false 0)), S.nx⟩) hm2 ?_ ?_ ?_
 ·rw [hf, h2, hu2, aE]; exact x2
 ·rw [hf]; exact ⟨Af _, fun c hc _ => by simp only; rw [T.get_set, if_neg (by omega), T.get_set, if_neg (by omega), T.get_set, if_neg (by omega)]⟩
 rw [hf]
 refine hr _ rfl ?_ ?_ fun c hc1 hc2 => ?_
 ·simp only; rw [T.get_set, if_neg hab, T.get_set, if_pos rfl]
 ·simp only; rw [T.get_set, if_pos rfl]
 ·simp only; rw [T.get_set, if_neg hc2, T.get_set, if_neg hc1, T.get_set, if_neg hc2]
def aMq (X3 : St) (sb mb tb ob fb ab ib rb : Nat) (iv : AV) (g : bF) (k : Nat) (A : bT) (X : St) : Prop := A.inr = false ∧ cU ab X3 X ∧ ∃ i bs cs, i + k = g.infos.length ∧ cs.length = g.infos.length ∧ X.h.get ab = some (.cells cs false 0) ∧ Rws X3 X bs cs ((vR g).take i) ∧ aC 2 A.F = .ptr sb 0 ∧ aC 3 A.F = .ptr mb 0 ∧ aC 4 A.F = .ptr tb 0 ∧ aC 6 A.F = .ptr ob 0 ∧ aC 7 A.F = .ptr fb 0 ∧ aC 37 A.F = iv ∧ aC 38 A.F = .int .i64 ((g.infos.length : Nat) : Int) ∧ aC 39 A.F = .int .i64 (i : Int)
def aF3 (g : bF) (m : List Int) (S S' : St) (x y : AV) : Prop := zO S S' x (imgI g m) ∧ ∃ ab bs cs, y = .sl ab 0 (imgA g m).length (imgA g m).length false ∧ S.nx ≤ ab ∧ ab < S'.nx ∧ S'.h.get ab = some (.cells cs false 0) ∧ Rws S S' bs cs (imgA g m)
theorem aBD {S : St} {wb plb szb : Nat} {nv iv pv mv : AV} {g : bF} {m : List Int} {T : List cE} {Z : List Int} (H : Has fns) (hn : aM 6 cL S nv g.nodes) (hi : aM 2 dB S iv g.infos) (hm : bO .i64 S mv m) (G : dT g) (M : rN g m) (hT : fK g = some T) (hTl : T.length = g.nodes.length) (hpv : bO .i64 S pv (T.map (·.1))) (hB : iE S wb plb szb pv nv iv g (kC g) Z) :
  iM fns (.fn 116 [] []) [.ptr wb 0, mv] S fun r S' => Same S S' ∧ ∃ x y t, r = .tup [.agg [x, y], .bool t] ∧ (t = true ↔ lG g m) ∧ (t = true → aF3 g m S S' x y) := by
 have hml : 0 < m.length := by rw [M.len]; exact G.n1
 have hN := G.n2
 have hNI := G.ni
 have hWF : WF (dN g) 0 (-1) T := by unfold fK at hT; exact kR hT
 refine cV H.f116 (by simp) ?_
 simp only [↓sU,sD,rE,↓reduceIte,rA]
 refine cF ?_
 refine eQ (cs := [.ptr wb 0]) rfl ?_
 intro S1 s1 n1 g1
 refine eQ (cs := [mv]) ?_ ?_
 ·exact bO.cells hm
 intro S2 s2 n2 g2
 refine dC ?_
 intro S3 s3 n3 g3
 simp only [↓sU,sD,rE,↓reduceIte,rA]
 have s13 := s2.trans s3
 have sS3 := s1.trans s13
 have gsb : S3.h.get S.nx = some (.cells [.ptr wb 0] false 0) := by rw [s13.2 _ (by omega)]; exact g1
 have gmb : S3.h.get S1.nx = some (.cells [mv] false 0) := by rw [s3.2 _ (by omega)]; exact g2
 have gtb : S3.h.get S2.nx = some (.cells [.nilsl, .nilsl] false 0) := g3
 have e1 : S1.nx = S.nx + 1 := n1
 have e2 : S2.nx = S.nx + 2 := by omega
 have e3 : S3.nx = S.nx + 3 := by omega
 rw [e1] at gmb
 rw [e2] at gtb
 simp only [e1, e2]
 clear g1 g2 g3 s1 s2 s3 s13 n1 n2 n3 e1 e2 S1 S2
 have hB3 := hB.same sS3
 have hW3 := hB3.w.1
 have lw3 := hB3.w.2
 have ls0 := cS (p := 0) gsb rfl
 have lsb : S.nx < S3.nx := by omega
 have siv := aM.self hi
 refine aD (nJ (fun _ => False) ?_)
 intro X1 x1 hx1 hm1
 simp only [↓sU,sD,rE,↓reduceIte,rA, ls0, lsb, Ax, aS, bH, aR, aA, aO, aB, fP hW3, lw3, siv, hi.len]
 refine iF rfl ?_
 simp only [↓sU,sD,rE,↓reduceIte,rA]
 refine aW (qE H (n := g.infos.length) (by omega)) ?_
 rintro r X2 ⟨⟨ib, rfl, b1, b2, b3⟩, x2⟩
 rw [Ap]
 refine ⟨x2, ?_⟩
 simp only [↓sU,sD,rE,↓reduceIte,rA, ls0, lsb, Ax, aS, bH, aR, aA, aO, aB, fP hW3, lw3, siv, hi.len]
 refine pZ (n := g.infos.length) (by simp only [↓sU,sD,rE,↓reduceIte,rA, aG]) (by simp only [↓sU,sD,rE,↓reduceIte,rA, aG]) (by unfold room; omega) (by unfold room; omega) ?_
 simp only [↓sU,sD,rE,↓reduceIte,rA]
 rw [aHQ (x := .sl ib 0 g.infos.length g.infos.length false) (y := .sl (S3.nx + 13) 0 g.infos.length g.infos.length false) (by simp only [↓sU,sD,rE,↓reduceIte,rA]) (by simp only [↓sU,sD,rE,↓reduceIte,rA]) rfl rfl]
 simp only [↓sU,sD,rE,↓reduceIte,rA, lO, tA]
 refine aLX (n := 2) rfl rfl rfl (by simp only [↓sU,sD,rE,↓reduceIte,rA]) (by simp only [↓sU,sD,rE,↓reduceIte,rA]; exact bK _) rfl rfl (by omega) (by omega) (by omega) ?_
 intro X3 hX3n ga0 go0 hX3
 rw [cA, repeatL_one] at *
 have bX1 : X1.nx = S3.nx + 17 := hm1
 have lX2 := x2.1
 have eX3 : X3.nx = X2.nx := hX3n
 have sX3 : Same S3 X3 := ⟨by omega, fun c hc => by rw [hX3 c (by omega) (by omega), x2.2 _ (by omega), hx1]⟩
 have gi0 : X3.h.get ib = some (.cells (bB (List.replicate g.infos.length (-1))) false 0) := by rw [hX3 _ (by omega) (by omega)]; exact b3
 show kH fns _ _ X3 _
 have gsb3 := (sX3.2 _ lsb).trans gsb
 have ls3 := cS (p := 0) gsb3 rfl
 have hW4 := (hB3.same sX3).w.1
 refine cF ?_
 simp only [↓aH,aJ,rE,↓reduceIte, rA, ls3, aS, aR, aA, aB, fP hW4, hi.len]
 refine bJ ?_
 simp only [↓aH,aJ,rE,↓reduceIte, rA]
 refine aW (qE H (n := g.infos.length) (by omega)) ?_
 rintro r X4 ⟨⟨rb, rfl, d1, d2, d3⟩, x4⟩
 rw [Ap]
 try simp only [↓aH,aJ,rE,↓reduceIte, rA]
 refine dC ?_
 intro X5 x5 m5 g5
 refine dU (b := X4.nx) (cs' := [.sl rb 0 g.infos.length g.infos.length false]) (by simp only [↓aH,aJ,rE,↓reduceIte, rA]) (by simp only [↓aH,aJ,rE,↓reduceIte, rA]; rfl) g5 rfl rfl ?_
 intro X6 x6 m6 g6
 simp only [↓aH,aJ,rE,↓reduceIte, rA]
 have lX4 := x4.1
 have x36 : Same X3 X6 := x4.trans (x6.same x5 (Af _))
 have sX6 := sX3.trans x36
 have gi6 := (x36.2 _ (by omega)).trans gi0
 have ga6 := (x36.2 _ (by omega)).trans ga0
 have go6 := (x36.2 _ (by omega)).trans go0
 have gr6 : X6.h.get rb = some (.cells (bB (List.replicate g.infos.length (-1))) false 0) := by rw [x6.2 _ (by omega) (by omega), x5.2 _ (by omega)]; exact d3
 have gsb6 := (sX6.2 _ lsb).trans gsb
 have ls6 := cS (p := 0) gsb6 rfl
 have hW6 := (hB3.same sX6).w.1
 have eX6 : X6.nx = X4.nx + 1 := by omega
 have hli := hi.len
 refine aD (bN (Q := fun o A' X => o = .normal ∧ aMq X6 S.nx (S.nx + 1) (S.nx + 2) (S3.nx + 15) X4.nx (S3.nx + 13) ib rb iv g 0 A' X) (aD (aP ?_)) ?_)
 ·simp only [↓aH,aJ,rE,↓reduceIte, rA, ls6, aS, aR, aA, aB, fP hW6, hli]
  refine aU (cI (aMq X6 S.nx (S.nx + 1) (S.nx + 2) (S3.nx + 15) X4.nx (S3.nx + 13) ib rb iv g) ?_ g.infos.length _ _ ⟨rfl, cU.refl _ _, 0, fun _ => 0, _, by omega, Ap .., ga6, Rws.none, by refine ⟨?_,?_,?_,?_,?_,?_,?_,?_⟩<;>simp only [↓aH,aJ,rE,↓reduceIte,rA]⟩)
  rintro k ⟨F, inr⟩ X ⟨q0, hX, i, bs, cs, hik, hcl, hga, hR, p2, p3, p4, p6, p7, p37, p38, p39⟩
  simp only at q0 p2 p3 p4 p6 p7 p37 p38 p39
  subst q0
  refine cF ?_
  simp only [↓aH,aJ,rE,↓reduceIte, rA, p38, p39]
  by_cases hlt : i < g.infos.length
  rotate_left
  ·refine aD (aT (by simp only [↓aH,aJ,rE,↓reduceIte, rA, Aa (show ¬ (i : Int) < ((g.infos.length : Nat) : Int) by omega)]) (cC ?_))
   simp only [↓aH,aJ,rE,↓reduceIte, rA]
   have hk0 : k = 0 := by omega
   subst hk0
   exact ⟨rfl, hX, i, bs, cs, hik, hcl, hga, hR, by refine ⟨?_,?_,?_,?_,?_,?_,?_,?_⟩<;>simp only [↓aH,aJ,rE,↓reduceIte,rA,p2,p3,p4,p6,p7,p37,p38,p39]⟩
  refine aD (aY (by simp only [↓aH,aJ,rE,↓reduceIte, rA, Ad (show (i : Int) < ((g.infos.length : Nat) : Int) by omega)]) (aN ?_))
  try simp only [↓aH,aJ,rE,↓reduceIte, rA]
  have sX : Same S X := hX.same (sS3.trans sX6) (by omega)
  have lXn := hX.1
  obtain ⟨f1, f2, f3⟩ := G.fst i hlt
  have hac := (G.inf _ f1 f2).2.2
  rw [f3] at hac
  obtain ⟨e, b, q, hian, hb, he, heq, hla, _⟩ := aM.at hi (by decide) (Ab hlt)
  have hia' : g.infos[i] = infoAt g (i : Int) := by unfold infoAt; rw [Ac, Ba, Ab hlt]; rfl
  unfold dB at heq
  subst heq
  rw [hia', hac] at hla
  rw [← qY sX hb] at hla
  have hnl : (nodeAt g (fN g i)).next.length ≤ 1000 := G.nxt _ f1
  generalize hna : (nodeAt g (fN g i)).next.length = na at *
  have w1 : IntKind.i64.wrap ((i : Int) + 1) = ((i + 1 : Nat) : Int) := by rw [wrap_i64 (by omega) (by omega)]; omega
  have goX := (hX.2 _ (show S3.nx + 15 < X6.nx by omega) (by omega)).trans go6
  refine aD (aU (aD (aP ?_)))
  simp only [↓aH,aJ,rE,↓reduceIte, rA, p37, p39, aG, hian, hla]
  refine dC ?_
  intro Y1 y1 k1 h1
  simp only [↓aH,aJ,rE,↓reduceIte, rA]
  refine dU (b := X.nx) (by simp only [↓aH,aJ,rE,↓reduceIte, rA]) (by simp only [↓aH,aJ,rE,↓reduceIte, rA]; exact bK _) h1 rfl rfl ?_
  intro Y2 y2 k2 h2
  simp only [↓aH,aJ,rE,↓reduceIte, rA]
  have sXY : Same X Y2 := y2.same y1 (Af _)
  have eY2 : Y2.nx = X.nx + 1 := by omega
  have goY := (sXY.2 _ (by omega)).trans goX
  have gaY := (sXY.2 _ (by omega)).trans hga
  have hRY := hR.same sXY
  have hlo1 := ldc (j := 1) goY rfl
  have hlx1 := ldc (j := 1) h2 rfl
  have nW1 : ¬ (S3.nx + 15 = S3.nx + 13) := by omega
  have nW2 : ¬ (X.nx = S3.nx + 13) := by omega
  have lW1 : S3.nx + 15 < Y2.nx := by omega
  have lW2 : X.nx < Y2.nx := by omega
  have hia := fV (b := S3.nx + 13) (o := false) hlt
  refine nJ (fun c => c = S3.nx + 13) ?_
  intro U0 u0 hu0 mu0
  simp only [↓sU,sD,rE,↓reduceIte,rA, p6, aA, aO, aB, hlo1, hlx1, nW1, nW2, lW1, lW2, Ax]
  refine iF rfl ?_
  simp only [↓sU,sD,rE,↓reduceIte,rA]
  refine aW (qE H (n := na) (by omega)) ?_
  rintro r U1 ⟨⟨nb, rfl, t1, t2, t3⟩, u1⟩
  refine ⟨u1, ?_⟩
  have sYU : Same Y2 U1 := u0.trans u1
  have gaU := (sYU.2 _ (by omega)).trans gaY
  simp only [↓sU,sD,rE,↓reduceIte,rA, aG, hia]
  refine wK (ps' := []) (h' := U1.h) (b := S3.nx + 13) (p := i) (cs := cs) (w := uR nb (List.replicate na (-1))) (by rw [cA]) rfl (by simp only [↓sU,sD,rE,↓reduceIte,rA]) (by simp only [↓sU,sD,rE,↓reduceIte,rA]; rfl) gaU (by omega) rfl ?_
  simp only [↓sU,sD,rE,↓reduceIte,rA]
  have lu0 := u0.1
  have lu1 := u1.1
  have hA0 : ((vR g).take i).length = i := by unfold vR; rw [Bs, Av]; omega
  have hA1 : (vR g).take (i + 1) = (vR g).take i ++ [List.replicate na (-1)] := by
   rw [Cl]
   congr 1
   unfold vR
   rw [Bc, Ab hlt, hia']
   show [List.replicate (infoAt g (i : Int)).actions.toNat (-1)] = _
   rw [hac, Ba]
  refine aP ?_
  simp only [↓sU,sD,rE,↓reduceIte,rA, p39, w1]
  refine ⟨k - 1, by omega, rfl, ⟨show X6.nx ≤ U1.nx by omega, fun c hc hne => ?_⟩, i + 1, (fun j => if j = ((vR g).take i).length then nb else bs j), cs.set i (uR nb (List.replicate na (-1))), by omega, by rw [Au]; exact hcl, by simp only; rw [Ev.T.get_set, if_pos rfl], ?_, by refine ⟨?_,?_,?_,?_,?_,?_,?_,?_⟩<;>simp only [↓sU,sD,rE,↓reduceIte,rA,p2,p3,p4,p6,p7,p37,p38]⟩
  ·simp only
   rw [Ev.T.get_set, if_neg hne, sYU.2 _ (by omega), sXY.2 _ (by omega)]
   exact hX.2 c hc hne
  ·rw [hA1]
   refine (hRY.same sYU |>.move (X' := ⟨U1.h.set (S3.nx + 13) (some (.cells (cs.set i (uR nb (List.replicate na (-1)))) false 0)), U1.nx⟩) (Af _) fun j hj => ?_).add (nb := nb) (by omega) (show nb < U1.nx from t2) ?_ (fun j hj => ?_) (fun j hj => ?_) ?_
   ·have := (hRY.bl j hj).1
    simp only
    rw [Ev.T.get_set, if_neg (by omega)]
   ·simp only
    rw [Ev.T.get_set, if_neg (by omega)]
    exact t3
   ·have := (hRY.bl j hj).2.1
    omega
   ·rw [Di, if_neg (by omega)]
   ·rw [hA0, Di, if_pos rfl, if_pos (by omega)]
 rintro o ⟨F, inr⟩ X7 ⟨rfl, q0, hX7, i, bs, cs, hik, hcl, hga, hR, p2, p3, p4, p6, p7, p37, p38, p39⟩
 simp only at q0 p2 p3 p4 p6 p7
 subst q0
 obtain rfl : i = g.infos.length := by omega
 have hAl : (vR g).length = g.infos.length := by unfold vR; rw [Av]
 rw [Bn (by omega)] at hR
 clear p37 p38 p39
 try simp only [↓aH,aJ,rE,↓reduceIte, rA]
 have lX7 := hX7.1
 refine cF ?_
 refine dC ?_
 intro X8 x8 m8 g8
 simp only [↓aH,aJ,rE,↓reduceIte, rA]
 refine cF ?_
 simp only [↓aH,aJ,rE,↓reduceIte, rA, aEk, p2, p3, p6, p7]
 obtain ⟨L, hL⟩ : ∃ L : Lay, L = ⟨S.nx, S3.nx + 15, X4.nx, S.nx + 1, X7.nx, wb, ib, rb, S3.nx + 13, bs, cs⟩ := ⟨_, rfl⟩
 have hLfn : L.fn = .fn 156 [] [.ptr S.nx 0, .ptr (S3.nx + 15) 0, .ptr X4.nx 0, .ptr (S.nx + 1) 0, .ptr X7.nx 0] := by rw [hL]; rfl
 refine dU (b := X7.nx) (cs' := [L.fn]) (by simp only [↓aH,aJ,rE,↓reduceIte, rA]) (by rw [hLfn]; simp only [↓aH,aJ,rE,↓reduceIte, rA]; rfl) g8 rfl rfl ?_
 intro X9 x9 m9 g9
 simp only [↓aH,aJ,rE,↓reduceIte, rA]
 have eX9 : X9.nx = X7.nx + 1 := by omega
 have s79 : Same X7 X9 := x9.same x8 (Af _)
 have old : ∀ c, c < X6.nx → c ≠ S3.nx + 13 → X9.h.get c = X6.h.get c := fun c hc hne => by rw [s79.2 _ (by omega), hX7.2 c hc hne]
 have sX9 : Same S X9 := ⟨by omega, fun c hc => by rw [old c (by omega) (by omega), (sS3.trans sX6).2 _ hc]⟩
 have hWb : ∀ b, L.W g.infos.length b → (X1.nx ≤ b ∧ b < X2.nx) ∨ (X3.nx ≤ b ∧ b < X4.nx) ∨ (X6.nx ≤ b ∧ b < X7.nx) := by
  rw [hL]
  rintro b (rfl | rfl | ⟨j, hj, rfl⟩)
  ·exact .inl ⟨b1, b2⟩
  ·exact .inr (.inl ⟨d1, d2⟩)
  ·obtain ⟨h1, h2, _⟩ := hR.bl j (by omega)
   exact .inr (.inr ⟨h1, h2⟩)
 have C : Laid L S X9 g.infos.length mv := by
  have nW : ∀ c, (c < X1.nx ∨ c = X4.nx ∨ c = X7.nx) → ¬ L.W g.infos.length c := fun c hc hw => by have := hWb c hw; omega
  have w0 : ∀ b, L.W g.infos.length b → S.nx ≤ b ∧ b < X9.nx := fun b hw => by have := hWb b hw; omega
  subst hL
  refine ⟨sX9, ?_, ?_, ?_, ?_, g9, ?_, ⟨?_, nW _ (.inl ?_)⟩, ⟨?_, nW _ (.inl ?_)⟩, ⟨?_, nW _ (.inr (.inl rfl))⟩, ⟨?_, nW _ (.inl ?_)⟩, ⟨?_, nW _ (.inr (.inr rfl))⟩, ⟨?_, nW _ (.inl ?_)⟩, w0, ?_, fun j hj => ?_⟩
  ·show X9.h.get S.nx = _
   rw [old _ (by omega) (by omega)]; exact gsb6
  ·show X9.h.get (S3.nx + 15) = _
   rw [old _ (by omega) (by omega)]; exact go6
  ·show X9.h.get X4.nx = _
   rw [old _ (by omega) (by omega)]; exact g6
  ·show X9.h.get (S.nx + 1) = _
   rw [old _ (by omega) (by omega), sX6.2 _ (by omega)]; exact gmb
  ·show X9.h.get (S3.nx + 13) = _
   rw [s79.2 _ (by omega)]; exact hga
  ·show S.nx < X9.nx; omega
  ·show S.nx < X1.nx; omega
  ·show S3.nx + 15 < X9.nx; omega
  ·show S3.nx + 15 < X1.nx; omega
  ·show X4.nx < X9.nx; omega
  ·show S.nx + 1 < X9.nx; omega
  ·show S.nx + 1 < X1.nx; omega
  ·show X7.nx < X9.nx; omega
  ·show S3.nx + 13 < X9.nx; omega
  ·show S3.nx + 13 < X1.nx; omega
  ·show ib ≠ rb; omega
  ·obtain ⟨h1, h2, _⟩ := hR.bl j (by omega)
   show ib ≠ bs j ∧ rb ≠ bs j
   omega
 have hD : Dyn L S X9 (List.replicate g.infos.length (-1)) (List.replicate g.infos.length (-1)) (vR g) := by
  subst hL
  refine ⟨?_, ?_, ?_⟩
  ·show X9.h.get ib = _
   rw [old _ (by omega) (by omega)]; exact gi6
  ·show X9.h.get rb = _
   rw [old _ (by omega) (by omega)]; exact gr6
  ·exact (hR.same s79).low (by omega)
 have hBL : iE S L.wb plb szb pv nv iv g (kC g) Z := by rw [hL]; exact hB
 have hiw := aF4 H hn hm G M hTl hWF hpv hBL (g.nodes.length + 1) (by unfold fK at hT; exact hT) C hD (gP.start G m)
 rw [Am, hTl] at hiw
 have hgm : X9.h.get (S.nx + 1) = some (.cells [mv] false 0) := by have := C.gm; rw [hL] at this; exact this
 have hgk : X9.h.get X7.nx = some (.cells [L.fn] false 0) := g9
 have lm0 := cS (p := 0) hgm rfl
 have lk0 := cS (p := 0) hgk rfl
 have hm9 := hm.same sX9
 have ia0 := hm9.iaddr hml
 have la0 := hm9.ld hml
 have nWt : ¬ L.W g.infos.length (S.nx + 2) := fun hw => by have := hWb _ hw; omega
 have nWo : ¬ L.W g.infos.length (S3.nx + 15) := fun hw => by have := hWb _ hw; omega
 have nWa : ¬ L.W g.infos.length (S3.nx + 13) := fun hw => by have := hWb _ hw; omega
 have gt9 : X9.h.get (S.nx + 2) = some (.cells [.nilsl, .nilsl] false 0) := by rw [old _ (by omega) (by omega), sX6.2 _ (by omega)]; exact gtb
 have go9 : X9.h.get (S3.nx + 15) = some (.cells [.sl ib 0 g.infos.length g.infos.length false, .sl (S3.nx + 13) 0 g.infos.length g.infos.length false] false 0) := by rw [old _ (by omega) (by omega)]; exact go6
 have ga9 : X9.h.get (S3.nx + 13) = some (.cells cs false 0) := by rw [s79.2 _ (by omega)]; exact hga
 have lt9 : S.nx + 2 < X9.nx := by omega
 have lo9 : S3.nx + 15 < X9.nx := by omega
 have la9 : S3.nx + 13 < X9.nx := by omega
 have lt0 : S.nx ≤ S3.nx + 13 := by omega
 have li0 : S.nx ≤ ib := by omega
 have li9 : ib < X9.nx := by omega
 have hrb : L.bs = bs ∧ L.cs = cs ∧ L.ib = ib := by rw [hL]; exact ⟨rfl, rfl, rfl⟩
 clear hR hga s79 x9 m9 x8 m8 g8 g9 lX7 hX7 old
 refine aD (aD (bN (Q := fun o A' Y => o = .normal ∧ A'.inr = false ∧ iS (L.W g.infos.length) X9 Y ∧ aC 4 A'.F = .ptr (S.nx + 2) 0 ∧ aC 6 A'.F = .ptr (S3.nx + 15) 0 ∧ ∃ t, aC 61 A'.F = .bool t ∧ (t = true → ¬ lG g m) ∧ (t = false → m.getD 0 0 = 0 ∧ ∃ I' F' A', Dyn L S Y I' F' A' ∧ gP g m g.nodes.length g.nodes.length I' F' A')) (aP ?_) ?_))
 ·by_cases h0 : m.getD 0 0 = 0
  rotate_left
  ·simp only [↓sU,sD,rE,↓reduceIte,rA, p3, lm0, aDp, ia0, la0, Ad (show m.getD 0 0 ≠ 0 from h0), p4, p6]
   exact ⟨iS.refl _ _, true, rfl, fun _ a => h0 a.root, fun h => by cases h⟩
  simp only [↓sU,sD,rE,↓reduceIte,rA, p3, lm0, aDp, ia0, la0, Aa (show ¬ m.getD 0 0 ≠ 0 from fun h => h h0), lk0]
  refine bJ ?_
  simp only [↓sU,sD,rE,↓reduceIte,rA]
  have e0 : eK m 0 = 0 := by unfold eK; rw [h0]; rfl
  rw [e0] at hiw
  refine aW hiw ?_
  rintro _ Y ⟨bY, t, rfl, ht0, ht1⟩
  simp only [↓sU,sD,rE,↓reduceIte,rA, gS, p4, p6]
  refine ⟨bY, !t, rfl, fun h => ?_, fun h => ⟨h0, ?_⟩⟩
  ·cases t with
   | true => cases h
   | false => exact ht0 rfl
  ·cases t with
   | false => cases h
   | true => exact ht1 rfl
 clear p2 p3 p4 p6 p7 hiw
 rintro o ⟨F, inr⟩ Y ⟨rfl, q0, bY, p4, p6, t, p61, ht1, ht0⟩
 simp only at q0 p4 p6 p61
 subst q0
 have gtY := (bY.2 _ lt9 nWt).trans gt9
 have sY : Same S Y := C.same bY
 have lY := bY.1
 try simp only [↓sU,sD,rE,↓reduceIte,rA]
 cases t with
 | true =>
  refine aY (by simp only [↓sU,sD,rE,↓reduceIte,rA, p61]) ?_
  refine cF ?_
  simp only [↓aH,aJ,rE,↓reduceIte, rA, aG7, lO]
  refine dU (b := S.nx + 2) (cs' := [.nilsl, .nilsl]) (by simp only [↓aH,aJ,rE,↓reduceIte, rA, p4]) (by simp only [↓aH,aJ,rE,↓reduceIte, rA]; exact bK _) gtY rfl rfl ?_
  intro Y2 y2 k2 h2
  simp only [↓aH,aJ,rE,↓reduceIte, rA]
  refine bD ?_
  have ld2 := pS (n := 2) h2 rfl
  simp only [↓aH,aJ,rE,↓reduceIte, rA, eZ, p4, ld2]
  exact ⟨⟨by have := sY.1; omega, fun c hc => by rw [y2.2 _ (by have := sY.1; omega) (by omega), sY.2 _ hc]⟩, _, _, false, rfl, ⟨fun h => (by cases h), fun a => absurd a (ht1 rfl)⟩, fun h => by cases h⟩
 | false =>
  obtain ⟨h0, I', F', A', hDY, hSY⟩ := ht0 rfl
  refine aT (by simp only [↓sU,sD,rE,↓reduceIte,rA, p61]) (aN ?_)
  try simp only [↓sU,sD,rE,↓reduceIte,rA]
  have goY := (bY.2 _ lo9 nWo).trans go9
  have gaY := (bY.2 _ la9 nWa).trans ga9
  have lo2 := pS (n := 2) goY rfl
  obtain ⟨hA, hI, hAe⟩ := hSY.full G M h0
  refine cF ?_
  simp only [↓aH,aJ,rE,↓reduceIte, rA, p6, lo2]
  refine dU (b := S.nx + 2) (cs' := [.sl ib 0 g.infos.length g.infos.length false, .sl (S3.nx + 13) 0 g.infos.length g.infos.length false]) (by simp only [↓aH,aJ,rE,↓reduceIte, rA, p4]) (by simp only [↓aH,aJ,rE,↓reduceIte, rA]; exact bK _) gtY rfl rfl ?_
  intro Y2 y2 k2 h2
  simp only [↓aH,aJ,rE,↓reduceIte, rA]
  refine bD ?_
  have ld2 := pS (n := 2) h2 rfl
  simp only [↓aH,aJ,rE,↓reduceIte, rA, eZ, p4, ld2]
  obtain ⟨r1, r2, r3⟩ := hrb
  have gi := hDY.gi
  have hrw := hDY.rw
  rw [r3, hI] at gi
  rw [r1, r2, hAe] at hrw
  have hlI : (imgI g m).length = g.infos.length := by simp [imgI]
  have hlA : (imgA g m).length = g.infos.length := by simp [imgA]
  refine ⟨⟨by have := sY.1; omega, fun c hc => by rw [y2.2 _ (by have := sY.1; omega) (by omega), sY.2 _ hc]⟩, _, _, true, rfl, ⟨fun _ => hA, fun _ => rfl⟩, fun _ => ⟨⟨ib, by rw [hlI], li0, by omega, ?_⟩, S3.nx + 13, bs, cs, by rw [hlA], lt0, by omega, ?_, hrw.move (by omega) fun j hj => ?_⟩⟩
  ·rw [y2.2 _ (by omega) (by omega)]; exact gi
  ·rw [y2.2 _ (by omega) (by omega)]; exact gaY
  ·obtain ⟨h1, h2', _⟩ := hrw.bl j hj
   refine y2.2 _ h2' fun e => nWt ?_
   rw [← e, ← r1]
   exact .inr (.inr ⟨j, by rw [← hlA]; exact hj, rfl⟩)
theorem vI {g : bF} {m : List Int} : aBG (aF3 g m) := fun {S0 S1 S2 x y} h hn hh => by
 obtain ⟨⟨b, h1, h2, h3, h4⟩, ab, bs, cs, k1, k2, k3, k4, k5⟩ := h
 refine ⟨⟨b, h1, h2, Ae h3 hn, (hh b h2 h3).trans h4⟩, ab, bs, cs, k1, k2, Ae k3 hn, (hh ab k2 k3).trans k4, k5.move hn fun j hj => ?_⟩
 obtain ⟨a, b, _⟩ := k5.bl j hj
 exact hh _ a b
theorem aGh {S : St} {nv iv mv : AV} {g : bF} {m : List Int} (H : Has fns) (hn : aM 6 cL S nv g.nodes) (hi : aM 2 dB S iv g.infos) (hm : bO .i64 S mv m) : aJB fns S nv iv mv g m (lG g m) (aF3 g m) := fun h0 h1 h2 _ S0 wb plb szb pv T Z hS0 hT hTl hpv hB =>
 aBD H (aM.same (E := cL) cB hn hS0) (aM.same (E := dB) cQ hi hS0) (hm.same hS0) (jA h0) ⟨h1, h2⟩ hT hTl hpv hB
end Go.Ev.Gl
namespace Go.Ev.Gl
theorem aHy {k : IntKind} {S : St} {v : AV} {l : List Int} (h : aM 1 (aKu k) S v l) : bO k S v l := by
 rcases h with h | ⟨b, off, cap, o, cs, rfl, h2, h3, h4, h5⟩
 ·exact .inl h
 ·refine .inr ⟨b, off, cap, o, cs, rfl, h2, h3, h4, fun i x hi => ?_⟩
  obtain ⟨e, e1, e2, rfl, _⟩ := h5 i x hi
  have := e2 0 _ rfl
  rw [Ee, Bj] at this
  exact this
abbrev aEg (k : IntKind) : St → List AV → List Int → Prop := aI2 1 (aKu k)
theorem aKE {k : IntKind} {S : St} {avs : List AV} {l : List Int} (h : aEg k S avs l) : ∃ v, avs = [v] ∧ bO k S v l := by
 obtain ⟨v, h1, h2⟩ := aI2.is h
 exact ⟨v, h1, aHy h2⟩
def aNl (g : bF) : Prop := g.infos.length * 16 ≤ 140737488355328 ∧ ∀ x ∈ g.nodes, x.next.length * 8 ≤ 140737488355328 ∧ x.weights.length * 8 ≤ 140737488355328 ∧ x.pay.length * 8 ≤ 140737488355328
section
variable {P : Program} {σ : Env} {S : St} {w : World}
theorem aJp {k : IntKind} {S : St} {avs : List AV} {l : List Int} (h : aEg k S avs l) : l.length ≤ 140737488355328 := by
 obtain ⟨_, _, h, _⟩ := h
 omega
theorem aCF {t : TypeId} {k : IntKind} {H : Type} {enc : TypeId × Value → H} {base : Nat} {spare : Nat → Bool} {held : Bool} {fuel : Nat} {v : Value} {x : DataW H × List MemPlace} (hR : kT P σ S w) (hn : xG S) (hf : wT S) (hG : P.globals.size ≤ S.nx) (hL : Lays P t (aEg k)) (h : DataW.trod enc P w base spare held fuel t v.cells.toList = some x) (hv : v.cells.toList = [v]) (hW : ∀ n ∈ DataW.weights P t x.1, n ≤ 140737488355328) :
  ∃ σ' S' a l, oG P σ S w σ' S' ∧ Rv P σ' a v ∧ bO k S' a l ∧ l.length ≤ 140737488355328 ∧ S.nx ≤ S'.nx := by
 obtain ⟨σ', S', avs, l, hA, hr, h1, hE, hnx⟩ := hL H enc σ S w base spare held fuel _ x hR hn hf hG h hW
 have hb := aJp hE
 obtain ⟨a, rfl, i1⟩ := aKE hE
 rw [hv] at hr
 obtain ⟨_, _, h2, h3, h4⟩ := dE.1 hr
 cases h2
 exact ⟨σ', S', a, l, hA, h3, i1, hb, hnx⟩
theorem aHv {t e : TypeId} {k : IntKind} (ht : P.underlying t = some (.slice e)) (he : P.underlying e = some (.int k)) (hc : P.cellsOf e = 1) (hby : 8 ≤ P.bytesOf e) : Lays P t (aEg k) := aFZ ht hc (by decide) (by omega) (aIV he) aJw
end
end Go.Ev.Gl
