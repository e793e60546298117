import Derived.Test.YtoojnpjgnnpllaaGl16
open Nat renaming reduceEqDiff → rE, reduceAdd → rA
set_option maxHeartbeats 16000000
set_option linter.unusedSimpArgs false
set_option linter.unusedVariables false
namespace Go.Ev.Gl
variable {fns : T eJ}
def vS : cM := ⟨0, 0, 0, [], [], []⟩
theorem aE9 {A C : List cM} {x y : cM} : (A ++ [y] ++ C).set A.length x = A ++ (x :: C) := by
 rw [Bf, List.set_append_right _ _ (Af _), Ej]
 rfl
theorem aKa {lev : Nat} {m m' : Mk} {x : cM} (hp : aB3 lev m) (hp1 : 1 ≤ m.pend) (hx : aJU m.ps x) (h1 : m'.nodes = m.nodes ++ [x]) (h2 : m'.infos = m.infos) (h3 : m'.views = m.views) (h4 : m'.most = m.most) (h5 : m'.ps = m.ps) (h6 : m'.pend = m.pend - 1) : tO m m' [x] 1 where
 nodes := h1
 ok := fun y hy => by rw [Cf.1 hy]; exact .inl hx
 ord := fun lab hl => by
  have e : tP x = Option.none := by unfold tP; rw [if_neg (by rw [hx.kind]; decide)]
  rw [h2]
  show eR (lab ++ [tP x]) _
  rw [e]
  exact .none hl
 inf := ⟨[], by rw [h2, Bk]⟩
 vws := ⟨[], by rw [h3, Bk]⟩
 vok := ⟨by rw [h2, h3]; exact hp.vok.len, fun j v hv => by rw [h3] at hv; rw [h2, h5]; exact hp.vok.at_ j v hv⟩
 used := fun j h7 h8 => by rw [h2] at h8; omega
 most := h4
 ps := h5
 pend := h6
 fit := by
  have := hp.fit
  rw [h1, h6, h4, Ah, Aq]
  omega
 il := by
  have := hp.il
  rw [h1, h2, Ah, Aq]
  omega
structure aKq (lev : Nat) (m2 m3 : Mk) (pl info many : Int) : Prop where
 nodes : m3.nodes = m2.nodes
 most : m3.most = m2.most
 ps : m3.ps = m2.ps
 pend : m3.pend = m2.pend
 vok : aAr m3
 info0 : 0 ≤ info
 many1 : 1 ≤ many ∧ many ≤ 3
 cases : (m3.infos = m2.infos ∧ m3.views = m2.views ∧ ((pl < 0 ∧ info = 0) ∨ (0 ≤ pl ∧ m2.infos[info.toNat]? = some ⟨pl, many⟩ ∧ yG m2 info))) ∨ (0 ≤ pl ∧ info = ((m2.infos.length : Nat) : Int) ∧ m3.infos = m2.infos ++ [⟨pl, many⟩] ∧ m3.views = m2.views ++ [(pl, (lev : Int), info)])
theorem aCj {lev : Nat} {m2 m3 : Mk} {pl info many : Int} (h : aKq lev m2 m3 pl info many) (hnd : ∀ x ∈ m2.nodes, x.kind = 2 → x.info < ((m2.infos.length : Nat) : Int)) :
  ((pl < 0 ∨ info ≠ ((m3.infos.length : Nat) : Int) - 1 ∨ yG m3 info) → m3.infos = m2.infos ∧ m3.views = m2.views) ∧ ((0 ≤ pl ∧ info = ((m3.infos.length : Nat) : Int) - 1 ∧ ¬ yG m3 info) → m3.infos.dropLast = m2.infos ∧ m3.views.dropLast = m2.views) := by
 rcases h.cases with ⟨h1, h2, h3⟩ | ⟨h1, h2, h3, h4⟩
 ·refine ⟨fun _ => ⟨h1, h2⟩, fun ⟨a, b, c⟩ => ?_⟩
  rcases h3 with ⟨h5, _⟩ | ⟨_, _, h5⟩
  ·omega
  ·exact absurd (by obtain ⟨x, hx, hk⟩ := h5; exact ⟨x, by rw [h.nodes]; exact hx, hk⟩) c
 ·refine ⟨fun ho => ?_, fun _ => ⟨by rw [h3, List.dropLast_concat], by rw [h4, List.dropLast_concat]⟩⟩
  rcases ho with ho | ho | ho
  ·omega
  ·rw [h3, Ah, Aq] at ho; omega
  ·obtain ⟨x, hx, hk, hi⟩ := ho
   rw [h.nodes] at hx
   have := hnd x hx hk
   omega
def gJ (pl info : Int) (cs ws : List Int) : cM := if pl < 0 then ⟨1, 0, 0, cs, ws, []⟩ else ⟨2, pl, info, cs, ws, []⟩
theorem aIR {lev K : Nat} {m m2 m3 m5 mi m' : Mk} {pl info many : Int} {cs ws : List Int} {C : List cM} {i : Nat} (hp : aB3 lev m) (hp1 : 1 ≤ m.pend) (hpl : pl < m.ps) (e2 : m2.nodes = m.nodes ++ [vS] ∧ m2.infos = m.infos ∧ m2.views = m.views ∧ m2.most = m.most ∧ m2.ps = m.ps ∧ m2.pend = m.pend - 1) (hf : aKq lev m2 m3 pl info many) (e5 : m5.nodes = m3.nodes ∧ m5.infos = m3.infos ∧ m5.views = m3.views ∧ m5.most = m3.most ∧ m5.ps = m3.ps ∧ m5.pend = m3.pend + many) (hb : tO m5 mi C (i : Int)) (hi : (i : Int) = many) (hcs : cs.length = i) (hft : aBc K m5.nodes.length cs C) (hws : (pl < 0 → ws.length = i ∧ ∀ w ∈ ws, 1 ≤ w ∧ w ≤ 3) ∧ (¬ pl < 0 → ws = []))
  (h1 : m'.nodes = mi.nodes.set m.nodes.length (gJ pl info cs ws)) (h2 : m'.infos = mi.infos) (h3 : m'.views = mi.views) (h4 : m'.most = mi.most) (h5 : m'.ps = mi.ps) (h6 : m'.pend = mi.pend) : tO m m' (gJ pl info cs ws :: C) 1 ∧ oW (K + 1) m.nodes.length (gJ pl info cs ws :: C) := by
 obtain ⟨a1, a2, a3, a4, a5, a6⟩ := e2
 obtain ⟨c1, c2, c3, c4, c5, c6⟩ := e5
 have hN : mi.nodes = m.nodes ++ [vS] ++ C := by rw [hb.nodes, c1, hf.nodes, a1]
 have hN' : m'.nodes = m.nodes ++ (gJ pl info cs ws :: C) := by rw [h1, hN, aE9]
 have hm1 := hf.many1
 have hi0 := hf.info0
 obtain ⟨I5, hI5⟩ := hb.inf
 obtain ⟨V5, hV5⟩ := hb.vws
 have hil : ∃ I, m5.infos = m.infos ++ I := by
  rcases hf.cases with ⟨b1, _, _⟩ | ⟨_, _, b1, _⟩
  ·exact ⟨[], by rw [c2, b1, a2, Bk]⟩
  ·exact ⟨_, by rw [c2, b1, a2]⟩
 have hvl : ∃ V, m5.views = m.views ++ V := by
  rcases hf.cases with ⟨_, b1, _⟩ | ⟨_, _, _, b1⟩
  ·exact ⟨[], by rw [c3, b1, a3, Bk]⟩
  ·exact ⟨_, by rw [c3, b1, a3]⟩
 obtain ⟨I, hI⟩ := hil
 obtain ⟨V, hV⟩ := hvl
 have hps : mi.ps = m.ps := by rw [hb.ps, c5, hf.ps, a5]
 have hnext : (gJ pl info cs ws).next = cs := by unfold gJ; split <;> rfl
 have hok : gT m.ps mi.infos (gJ pl info cs ws) := by
  unfold gJ
  by_cases hpn : pl < 0
  ·rw [if_pos hpn]
   obtain ⟨w1, w2⟩ := hws.1 hpn
   exact .inr (.inl ⟨rfl, rfl, rfl, rfl, by show 1 ≤ cs.length; omega, by show cs.length ≤ 3; omega, by show ws.length = cs.length; omega, w2⟩)
  ·rw [if_neg hpn]
   have hat : mi.infos[info.toNat]? = some ⟨pl, ((cs.length : Nat) : Int)⟩ := by
    rw [hcs, hi, hI5]
    rcases hf.cases with ⟨b1, _, b3⟩ | ⟨_, b2, b1, _⟩
    ·rcases b3 with ⟨b3, _⟩ | ⟨_, b3, _⟩
     ·exact absurd b3 hpn
     ·rw [c2, b1, An (Ai.1 b3).1]; exact b3
    ·rw [c2, b1, b2, Ba, An (by simp), Ao (Af _), Ej]
     rfl
   exact .inr (.inr ⟨rfl, hws.2 hpn, rfl, by show 1 ≤ cs.length; omega, by show cs.length ≤ 3; omega, ⟨by show 0 ≤ pl; omega, hpl⟩, hi0, hat⟩)
 refine ⟨⟨hN', fun x hx => ?_, fun lab hl => ?_, ⟨I ++ I5, by rw [h2, hI5, hI, Bf]⟩, ⟨V ++ V5, by rw [h3, hV5, hV, Bf]⟩, ⟨by rw [h2, h3]; exact hb.vok.len, fun j v hv => by rw [h3] at hv; rw [h2, h5]; exact hb.vok.at_ j v hv⟩, fun j j1 j2 => ?_, by rw [h4, hb.most, c4, hf.most, a4], by rw [h5, hps], by rw [h6, hb.pend, c6, hf.pend, a6]; omega, ?_, ?_⟩, ?_⟩
 ·rw [h2]
  rcases Br.1 hx with rfl | hx
  ·exact hok
  ·have := hb.ok x hx
   rw [c5, hf.ps, a5] at this
   exact this
 ·rw [h2]
  have hl5 : eR (lab ++ [tP (gJ pl info cs ws)]) m5.infos.length := by
   rcases hf.cases with ⟨b1, _, b3⟩ | ⟨b0, b2, b1, _⟩
   ·rw [c2, b1, a2]
    rcases b3 with ⟨b3, _⟩ | ⟨b3, b4, _⟩
    ·have e : tP (gJ pl info cs ws) = Option.none := by unfold gJ; rw [if_pos b3]; rfl
     rw [e]; exact .none hl
    ·have e : tP (gJ pl info cs ws) = some info.toNat := by unfold gJ; rw [if_neg (by omega)]; rfl
     rw [e]
     have := (Ai.1 b4).1
     rw [a2] at this
     exact .old hl this
   ·have e : tP (gJ pl info cs ws) = some info.toNat := by unfold gJ; rw [if_neg (by omega)]; rfl
    rw [e, c2, b1, b2, Ba, a2, Ah, Aq]
    exact .new hl
  have := hb.ord _ hl5
  rw [Bf] at this
  exact this
 ·rw [h2] at j2
  by_cases hj : j < m5.infos.length
  ·rcases hf.cases with ⟨b1, _, _⟩ | ⟨b0, b2, b1, _⟩
   ·rw [c2, b1, a2] at hj; omega
   ·rw [c2, b1, a2, Ah, Aq] at hj
    refine ⟨_, Bm .., ?_, ?_⟩
    ·unfold gJ; rw [if_neg (by omega)]
    ·unfold gJ; rw [if_neg (by omega)]; show info = _; rw [b2, a2]; omega
  ·obtain ⟨x, hx, hk⟩ := hb.used j (by omega) j2
   exact ⟨x, Bg _ hx, hk⟩
 ·have := hb.fit
  rw [hN', h6, h4]
  rw [hN] at this
  simp only [Ah, Az, Bz] at this ⊢
  omega
 ·have := hb.il
  rw [hN', h2]
  rw [hN] at this
  simp only [Ah, Az, Bz] at this ⊢
  omega
 ·refine oW.node ?_
  rw [hnext]
  have e : m5.nodes.length = m.nodes.length + 1 := by rw [c1, hf.nodes, a1, Ah]; rfl
  rw [← e]
  exact hft
theorem aIY {lev : Nat} {m m2 m3 m5 : Mk} {pl info many : Int} (hp : aB3 lev m) (hp1 : 1 ≤ m.pend) (e2 : m2.nodes = m.nodes ++ [vS] ∧ m2.infos = m.infos ∧ m2.views = m.views ∧ m2.most = m.most ∧ m2.ps = m.ps ∧ m2.pend = m.pend - 1) (hf : aKq lev m2 m3 pl info many) (e5 : m5.nodes = m3.nodes ∧ m5.infos = m3.infos ∧ m5.views = m3.views ∧ m5.most = m3.most ∧ m5.ps = m3.ps ∧ m5.pend = m3.pend + many) (hfit : ((m.nodes.length : Nat) : Int) + 1 + (m.pend - 1) + many ≤ m.most) : aB3 (lev + 1) m5 := by
 obtain ⟨a1, a2, a3, a4, a5, a6⟩ := e2
 obtain ⟨c1, c2, c3, c4, c5, c6⟩ := e5
 have hm1 := hf.many1
 have hN : m5.nodes = m.nodes ++ [vS] := by rw [c1, hf.nodes, a1]
 have hil := hp.il
 have hlen5 : m.infos.length ≤ m5.infos.length ∧ m5.infos.length ≤ m.infos.length + 1 := by
  rcases hf.cases with ⟨b1, _, _⟩ | ⟨_, _, b1, _⟩
  ·rw [c2, b1, a2]; omega
  ·rw [c2, b1, a2, Ah, Aq]; omega
 refine ⟨⟨by rw [c2, c3]; exact hf.vok.len, fun j v hv => by rw [c3] at hv; rw [c2, c5]; exact hf.vok.at_ j v hv⟩, fun j v hv => ?_, fun x hx hk => ?_, by rw [hN, c4, hf.most, a4, c6, hf.pend, a6, Ah, Aq]; omega, by rw [c6, hf.pend, a6]; omega, by rw [c4, hf.most, a4]; exact hp.most, by rw [hN, Ah, Aq]; omega, by rw [c5, hf.ps, a5]; exact hp.ps⟩
 ·rw [c3] at hv
  have old : m.views[j]? = some v → v.2.1 < ((lev + 1 : Nat) : Int) ∨ yG m5 v.2.2 := fun h => (hp.lv j v h).elim (fun h => .inl (by omega)) fun h => .inr (h.mono hN)
  rcases hf.cases with ⟨_, b1, _⟩ | ⟨_, _, _, b1⟩
  ·rw [b1, a3] at hv; exact old hv
  ·rw [b1, a3] at hv
   by_cases hj : j < m.views.length
   ·rw [An hj] at hv; exact old hv
   ·rw [Ao (by omega)] at hv
    have h0 : j - m.views.length = 0 := by
     rcases Be (j - m.views.length) with h | h
     ·exact h
     ·rw [Bl (by simp; omega)] at hv; cases hv
    rw [h0] at hv
    cases hv
    exact .inl (by show (lev : Int) < _; omega)
 ·rw [hN] at hx
  rcases Bh.1 hx with h | h
  ·have := hp.nd x h hk; omega
  ·rw [Cf.1 h] at hk; cases hk
theorem aDd {c : AC} {F : Fr} {S : St} {Q : Out → bT → St → Prop} (Φ : Fr → Prop) (h0 : Φ F) (h : ∀ F', Φ F' → kH fns c ⟨F', false⟩ S Q) : kH fns c ⟨F, false⟩ S Q := h F h0
theorem aNI {F : Fr} {h : Ev.T AB} : gR (.build [.int .i64 0, .int .i64 0, .int .i64 0, .nilsl, .nilsl, .nilsl] []) F h = some (.agg [.int .i64 0, .int .i64 0, .int .i64 0, .nilsl, .nilsl, .nilsl]) := rfl
theorem aNM {F : Fr} {h : Ev.T AB} {pl info : Int} (h128 : aC 128 F = .int .i64 pl) (h129 : aC 129 F = .int .i64 info) : gR (.build [.int .i64 0, .int .i64 0, .int .i64 0, .nilsl, .nilsl, .nilsl] [(0, 1, .c (.int .i64 2)), (1, 1, .t 128), (2, 1, .t 129)]) F h = some (.agg [.int .i64 2, .int .i64 pl, .int .i64 info, .nilsl, .nilsl, .nilsl]) := by
 show (bE (eF _ (dJ F [(0, 1, .c (.int .i64 2)), (1, 1, .t 128), (2, 1, .t 129)])) fun cs => some (AV.agg cs)) = _
 simp only [dJ, show (cK.t 128).val F = .int .i64 pl from h128, show (cK.t 129).val F = .int .i64 info from h129, aEQ, eF, cT, aE]
 rfl
theorem aHF {k i b p : Nat} {v : AV} (h : eT (.slice k) v i = some (.ptr b p)) : aQ v = some b := by
 cases v with
 | sl b' off len cap o =>
  have h : bQ (Nat.blt i len) (some (AV.ptr b' (off + i * k))) none = some (.ptr b p) := h
  cases hh : Nat.blt i len with
  | true => rw [hh, aF] at h; cases h; rfl
  | false => rw [hh, aL] at h; cases h
 | _ => cases h
noncomputable def aJt : List AO := [mt 195 0,
om 196 1 (.nilchk (.t 195)),
om 197 3 (.faddr 7 (.t 196)),
om 198 7 (.faddr 1 (.t 197)),
om 199 15 (ld 198),
mt 200 7,
oq 201 (.ld true 6 (.t 11)),
om 202 127 (.iaddr (.slice 6) (.t 199) (.t 200))]
def aKo (P : Nat → Prop) (S0 X : St) (mb db : Nat) (LV : List (Int × Int × Int)) (lev : Nat) (m : Mk) (Z : St) : Prop := ∃ m' B, tO m m' B 1 ∧ oW (LV.length - lev) m.nodes.length B ∧ kL (fun c => P c ∨ X.nx ≤ c) S0 Z mb db m' LV ∧ eO mb db m X m' Z
theorem aDE {P : Nat → Prop} {S0 X Y : St} {mb db lev : Nat} {LV : List (Int × Int × Int)} {m m4 : Mk} (H : Has fns) (hpre : aB3 lev m) (hp1 : 1 ≤ m.pend) (hY : kL P S0 Y mb db m4 LV) (bY : eO mb db m X m4 Y) (e : m4.nodes = m.nodes ++ [vS] ∧ m4.infos = m.infos ∧ m4.views = m.views ∧ m4.most = m.most ∧ m4.ps = m.ps ∧ m4.pend = m.pend - 1) :
  iM fns (.fn 128 [] []) [.ptr mb 0, .int .i64 ((m.nodes.length : Nat) : Int)] Y fun _ Z => aKo P S0 X mb db LV lev m Z := by
 obtain ⟨e1, e2, e3, e4, e5, e6⟩ := e
 refine aW (aG3 H hY (show m.nodes.length < m4.nodes.length by rw [e1, Ah]; simp) (by rw [e5]; exact hpre.ps)) ?_
 rintro r Z ⟨x, hx, hZ, bZ⟩
 rw [e5] at hx
 have hset : m4.nodes.set m.nodes.length x = m.nodes ++ [x] := by
  have := aE9 (A := m.nodes) (C := []) (x := x) (y := vS)
  rw [Bk] at this
  rw [e1]; exact this
 exact ⟨{ m4 with nodes := m4.nodes.set m.nodes.length x }, [x], aKa hpre hp1 hx hset e2 e3 e4 e5 e6, oW.end_ hx.next, hZ.mono fun c _ h => h.elim (fun h => .inl h) fun h => .inr (Al bY.1 h), bY.trans bZ⟩
theorem aAK {S0 : St} {mb db lev : Nat} {LV : List (Int × Int × Int)} (H : Has fns) (hLV : ∀ p ∈ LV, -1 ≤ p.1 ∧ 2 ≤ p.2.1 ∧ p.2.1 ≤ 3 ∧ 0 ≤ p.2.2 ∧ p.2.2 ≤ 1000) (hLl : LV.length ≤ 700) (hle : lev ≤ LV.length) (hIH : lev < LV.length → aAw fns S0 mb db LV (lev + 1)) : aAw fns S0 mb db LV lev := by
 intro X P m v rows hM hS hpre hp1 hseen hrn hrl hLP
 have hfit := hpre.fit
 have hmost := hpre.most
 have hil := hpre.il
 have hps := hpre.ps
 have hvl := hpre.vok.len
 have f8 := cS (p := 8) hM.g rfl
 have f4 := cS (p := 4) hM.g rfl
 have wP : IntKind.i64.wrap (m.pend - 1) = m.pend - 1 := wrap_i64 (by omega) (by omega)
 refine cV H.f86 (by simp) ?_
 simp only [↓sU,sD,rE,↓reduceIte,rA]
 refine cF ?_
 simp only [↓sU,sD,rE,↓reduceIte,rA]
 refine cF ?_
 simp only [↓sU,sD,rE,↓reduceIte,rA, aS, aR, aA, aB, f8, hM.p.nod.len]
 refine cF ?_
 simp only [↓sU,sD,rE,↓reduceIte,rA, aS, aR, aA, aB, f4, wP]
 refine fX (v := .undef) (S1 := ⟨X.h.set mb (some (.cells (dL db { m with pend := m.pend - 1 }) false 0)), X.nx⟩) (fun call => by simp only [↓sU,sD,rE,↓reduceIte,rA, dW, cT]; exact stc (cs := dL db m) (p := 4) (S := X) hM.g (show 4 < 10 by omega)) ?_
 simp only [↓sU,sD,rE,↓reduceIte,rA]
 obtain ⟨X1, hX1⟩ : ∃ Z : St, Z = ⟨X.h.set mb (some (.cells (dL db { m with pend := m.pend - 1 }) false 0)), X.nx⟩ := ⟨_, rfl⟩
 have hM1 : kL P S0 X1 mb db { m with pend := m.pend - 1 } LV := (hM.p.keep (m' := { m with pend := m.pend - 1 }) (X' := X) (Af _) (fun _ _ _ _ => rfl) hM.p.dr rfl rfl rfl rfl rfl rfl rfl rfl rfl).1.put (by rw [hX1]; simp only; rw [T.get_set, if_pos rfl]) (by rw [hX1]; exact Af _) fun c _ hne => by rw [hX1]; simp only; rw [T.get_set, if_neg hne]
 have k1 : eO mb db m X { m with pend := m.pend - 1 } X1 := (hM.p.keep (m' := { m with pend := m.pend - 1 }) (X' := X) (Af _) (fun _ _ _ _ => rfl) hM.p.dr rfl rfl rfl rfl rfl rfl rfl rfl rfl).2.trans (by rw [hX1]; exact eO.put)
 rw [← hX1]
 have f81 := cS (p := 8) hM1.g rfl
 have hbl := fun (F : Fr) (h : Ev.T AB) => aNI (F := F) (h := h)
 refine cF ?_
 simp only [↓aH,aJ,rE,↓reduceIte, rA, aS, aR, aA, aB, f81, hbl]
 refine iO (aC7 (by simp only [↓aH,aJ,rE,↓reduceIte, rA]; rfl)) ?_
 intro X2 x2 n2 g2
 have hM2 := hM1.same x2
 obtain ⟨v', X3, eA, aV, nV, kV, bV⟩ := hM2.p.nod.push (bytes := 96) (x := .sl X1.nx 0 1 1 false) (a := vS) (by decide) (by have := k1.1; omega) rfl (aIj g2 rfl) rfl ⟨.nilsl, .nilsl, .nilsl, rfl, .inl ⟨rfl, .inl rfl⟩, .inl ⟨rfl, .inl rfl⟩, .inl ⟨rfl, .inl rfl⟩, fun c hc => by rcases hc with h | h | h <;> cases h⟩ (by show m.nodes.length + 1 ≤ room; unfold room; omega) (by show (m.nodes.length + 1) * 96 ≤ room; unfold room; omega)
 refine fX (fun call => by simp only [↓aH,aJ,rE,↓reduceIte, rA, fU]; exact eA) ?_
 simp only [↓aH,aJ,rE,↓reduceIte, rA, aS, aR, aA, aB]
 obtain ⟨kP, kM⟩ := hM2.p.pushN nV kV bV aV
 have gm3 : X3.h.get mb = some (.cells (dL db { m with pend := m.pend - 1 }) false 0) := (kV mb hM2.p.lt fun e => (hM2.p.d1 mb e).1 rfl).trans hM2.g
 refine fX (v := .undef) (S1 := ⟨X3.h.set mb (some (.cells (dL db { m with pend := m.pend - 1, na := v', nodes := m.nodes ++ [vS] }) false 0)), X3.nx⟩) (fun call => by simp only [↓aH,aJ,rE,↓reduceIte, rA, dW, aV.cells, aE]; exact stc (cs := dL db { m with pend := m.pend - 1 }) (p := 8) (S := X3) gm3 (show 8 < 10 by omega)) ?_
 simp only [↓aH,aJ,rE,↓reduceIte, rA]
 obtain ⟨X4, hX4⟩ : ∃ Z : St, Z = ⟨X3.h.set mb (some (.cells (dL db { m with pend := m.pend - 1, na := v', nodes := m.nodes ++ [vS] }) false 0)), X3.nx⟩ := ⟨_, rfl⟩
 have hM4 : kL P S0 X4 mb db { m with pend := m.pend - 1, na := v', nodes := m.nodes ++ [vS] } LV := kP.put (by rw [hX4]; simp only; rw [T.get_set, if_pos rfl]) (by rw [hX4]; exact Af _) fun c _ hne => by rw [hX4]; simp only; rw [T.get_set, if_neg hne]
 have k4 : eO mb db m X { m with pend := m.pend - 1, na := v', nodes := m.nodes ++ [vS] } X4 := ((k1.trans (eO.same x2)).trans kM).trans (by rw [hX4]; exact eO.put)
 rw [← hX4]
 clear hX4 gm3 kP kM kV nV bV eA aV hM2 g2 n2 x2 f81 hX1 k1 hM1
 obtain ⟨m2, hm2⟩ : ∃ m2 : Mk, m2 = { m with pend := m.pend - 1, na := v', nodes := m.nodes ++ [vS] } := ⟨_, rfl⟩
 rw [← hm2] at hM4 k4
 have E2 : m2.nodes = m.nodes ++ [vS] ∧ m2.infos = m.infos ∧ m2.views = m.views ∧ m2.most = m.most ∧ m2.ps = m.ps ∧ m2.pend = m.pend - 1 := by rw [hm2]; exact ⟨rfl, rfl, rfl, rfl, rfl, rfl⟩
 clear hm2
 refine aDd (fun F => aC 0 F = .ptr mb 0 ∧ aC 1 F = .int .i64 (lev : Int) ∧ aC 2 F = v ∧ aC 7 F = .int .i64 ((m.nodes.length : Nat) : Int)) (by refine ⟨?_,?_,?_,?_⟩<;>simp only [↓sU,sD,rE,↓reduceIte,rA]) ?_
 rintro F ⟨p0, p1, p2, p7⟩
 have f1 := cS (p := 1) hM4.g rfl
 have f0 := cS (p := 0) hM4.g rfl
 refine jH ?_
 by_cases hlv : (lev : Int) = ((LV.length : Nat) : Int)
 ·simp only [↓sU,sD,rE,↓reduceIte,rA, p0, p1, aS, aR, aA, aB, f1, hM4.p.lev.len, Aj, Ad hlv]
  refine aY (by simp only [↓sU,sD,rE,↓reduceIte,rA]) ?_
  refine cF ?_
  simp only [↓sU,sD,rE,↓reduceIte,rA, p0, p7]
  refine bJ ?_
  simp only [↓sU,sD,rE,↓reduceIte,rA]
  refine aW (aDE H hpre hp1 hM4 k4 E2) ?_
  intro r Z hZ
  try simp only [↓sU,sD,rE,↓reduceIte,rA]
  refine cF ?_
  simp only [↓sU,sD,rE,↓reduceIte,rA, p7]
  refine bD ?_
  simp only [↓sU,sD,rE,↓reduceIte,rA]
  exact hZ
 simp only [↓sU,sD,rE,↓reduceIte,rA, p0, p1, aS, aR, aA, aB, f0, f1, hM4.p.lev.len, Aj, Aa hlv]
 refine bJ ?_
 simp only [↓sU,sD,rE,↓reduceIte,rA]
 refine aW (jP H hM4.p.dr (n := 8) (by decide) (by decide)) ?_
 rintro _ X5 ⟨s5, d5, y, rfl, _, _⟩
 obtain ⟨hM5, b5⟩ := hM4.drawn s5 d5
 have k5 := k4.trans b5
 clear hM4 k4 b5 s5 d5
 by_cases hy : y = 1
 ·simp only [↓sU,sD,rE,↓reduceIte,rA, Ad hy]
  refine aY (by simp only [↓sU,sD,rE,↓reduceIte,rA]) ?_
  refine cF ?_
  simp only [↓sU,sD,rE,↓reduceIte,rA, p0, p7]
  refine bJ ?_
  simp only [↓sU,sD,rE,↓reduceIte,rA]
  refine aW (aDE H hpre hp1 hM5 k5 E2) ?_
  intro r Z hZ
  try simp only [↓sU,sD,rE,↓reduceIte,rA]
  refine cF ?_
  simp only [↓sU,sD,rE,↓reduceIte,rA, p7]
  refine bD ?_
  simp only [↓sU,sD,rE,↓reduceIte,rA]
  exact hZ
 simp only [↓sU,sD,rE,↓reduceIte,rA, Aa hy]
 refine aT (by simp only [↓sU,sD,rE,↓reduceIte,rA]) (aN ?_)
 try simp only [↓sU,sD,rE,↓reduceIte,rA]
 have hlt : lev < LV.length := by omega
 have hIH := hIH hlt
 obtain ⟨pl, mn, sn, hpe⟩ : ∃ pl mn sn, LV[lev]? = some (pl, mn, sn) := ⟨_, _, _, Ab hlt⟩
 have hmem : (pl, mn, sn) ∈ LV := Bx hpe
 obtain ⟨q1, q2, q3, q4, q5⟩ := hLV _ hmem
 have q6 := hLP _ hmem
 simp only at q1 q2 q3 q4 q5 q6
 refine aDd (fun F => aC 0 F = .ptr mb 0 ∧ aC 1 F = .int .i64 (lev : Int) ∧ aC 2 F = v ∧ aC 7 F = .int .i64 ((m.nodes.length : Nat) : Int)) (by refine ⟨?_,?_,?_,?_⟩<;>simp only [↓sU,sD,rE,↓reduceIte,rA,p0,p1,p2,p7]) ?_
 clear p0 p1 p2 p7 F f1 f0
 rintro F ⟨p0, p1, p2, p7⟩
 have f1 := cS (p := 1) hM5.g rfl
 obtain ⟨ep, bl, ql, hial, _, _, hple, hldl, _⟩ := aM.at hM5.p.lev (by decide) hpe
 have hple : ep = [.int .i64 pl, .int .i64 mn, .int .i64 sn] := hple
 subst hple
 refine cF ?_
 simp only [↓aH,aJ,rE,↓reduceIte, rA, p0, p1, aS, aR, aA, aB, f1, aG, hial, hldl]
 refine dC ?_
 intro W1 v1 n1 h1
 refine dU (b := X5.nx) (by simp only [↓aH,aJ,rE,↓reduceIte, rA]) (by simp only [↓aH,aJ,rE,↓reduceIte, rA]; exact bK _) h1 rfl rfl ?_
 intro X6 v2 n2 h2
 simp only [↓aH,aJ,rE,↓reduceIte, rA]
 have s56 : Same X5 X6 := v2.same v1 (Af _)
 have hM6 := hM5.same s56
 have k6 := k5.trans (eO.same s56)
 have ltb : X5.nx < X6.nx := by omega
 have ptb : PB mb db m2 X5.nx := hM5.p.fresh (Af _)
 have xtb : X.nx ≤ X5.nx := k5.1
 have t0 := cS (p := 0) h2 rfl
 have t1 := cS (p := 1) h2 rfl
 clear v1 v2 n1 n2 h1 W1 s56 hM5 k5 f1 hial hldl
 generalize X5.nx = tb at *
 refine cF ?_
 simp only [↓sU,sD,rE,↓reduceIte,rA, aA, aB, t1]
 obtain ⟨E2a, E2b, E2c, E2d, E2e, E2f⟩ := id E2
 have hnd2 : ∀ x ∈ m2.nodes, x.kind = 2 → x.info < ((m2.infos.length : Nat) : Int) := fun x hx hk => by
  rw [E2a] at hx
  rw [E2b]
  rcases Bh.1 hx with h | h
  ·exact hpre.nd x h hk
  ·rw [Cf.1 h] at hk; cases hk
 have hv2 : aAr m2 := ⟨by rw [E2b, E2c]; exact hvl, fun j w hw => by rw [E2c] at hw; rw [E2b, E2e]; exact hpre.vok.at_ j w hw⟩
 refine aD (bN (Q := fun o A' Z => o = .normal ∧ A'.inr = false ∧ ∃ m3 info many, aKq lev m2 m3 pl info many ∧ kL P S0 Z mb db m3 LV ∧ eO mb db m2 X6 m3 Z ∧ aC 0 A'.F = .ptr mb 0 ∧ aC 1 A'.F = .int .i64 (lev : Int) ∧ aC 2 A'.F = v ∧ aC 7 A'.F = .int .i64 ((m.nodes.length : Nat) : Int) ∧ aC 8 A'.F = .ptr tb 0 ∧ aC 9 A'.F = .int .i64 many ∧ aC 10 A'.F = .int .i64 info) (aD (aP ?_)) ?_)
 ·simp only [↓sU,sD,rE,↓reduceIte,rA, aA, aB, t0]
  by_cases hpn : 0 ≤ pl
  rotate_left
  ·refine aT (by simp only [↓sU,sD,rE,↓reduceIte,rA, Aa (show ¬ pl ≥ 0 from hpn)]) (aN ?_)
   simp only [↓sU,sD,rE,↓reduceIte,rA, p0, p1, p2, p7]
   exact ⟨m2, 0, mn, ⟨rfl, rfl, rfl, rfl, hv2, by omega, ⟨by omega, q3⟩, .inl ⟨rfl, rfl, .inl ⟨by omega, rfl⟩⟩⟩, hM6, eO.refl, rfl, rfl⟩
  refine aY (by simp only [↓sU,sD,rE,↓reduceIte,rA, Ad (show pl ≥ 0 from hpn)]) ?_
  obtain ⟨pn, rfl⟩ : ∃ pn : Nat, pl = (pn : Int) := ⟨pl.toNat, by omega⟩
  have hpr : pn < rows.length := by omega
  have hs6 : rG (fun c => PB mb db m2 c ∧ P c) X6 v rows := hseen.move k6.1 fun c hc hp => ⟨(k6.2 c hc hp.1).1, (k6.2 c hc hp.1).2, hp.2⟩
  obtain ⟨_, br, qr, hia, lbr, _, ⟨a, rfl, hrow, hrb⟩, _, hlf⟩ := aM.at hs6.rows (by decide) (aAU hpr)
  have hld := hlf 0 a rfl
  rw [Bj] at hld
  have pbr := (hs6.out br (aHF hia)).1
  have sa := bO.self hrow
  have hrlen : (rows.getD pn []).length ≤ lev := hrl _ (by rw [Ac, Ab hpr]; exact Bt hpr)
  have hx6 := k6.1
  refine aD (mN (fun c => ¬ PB mb db m2 c) ?_)
  intro X7 x7
  simp only [↓sU,sD,rE,↓reduceIte,rA, p0, p1, p2, aA, aO, aB, t0, aG, hia, hld, sa, ltb, lbr, ptb, pbr, Cu, Ax]
  refine jN rfl ?_
  simp only [↓sU,sD,rE,↓reduceIte,rA]
  refine aW (aGY (l := rows.getD pn []) H (hM6.same x7) (by have h9 : X6.nx ≤ X7.nx := x7.1; show S0.nx ≤ X7.nx; omega) (hrow.same x7) (by omega) hrb (by rw [E2c]; omega) (by rw [E2b]; omega)) ?_
  intro r Z hZ
  have offw : ∀ {m3}, eO mb db m2 X7 m3 Z → aEL (fun c => ¬ PB mb db m2 c) X6.nx X7 Z := fun {m3} b => ⟨b.1, fun c hc hn => (b.2 c (by have := x7.1; omega) (Classical.not_not.1 hn)).1⟩
  rcases hZ with ⟨sZ, i, vw, hvi, e1, e2, rfl⟩ | ⟨va', ia', a', a1, a2, rfl, hMZ, bZ⟩
  ·refine ⟨offw (eO.same sZ), ?_⟩
   have hMZ := (hM6.same x7).same sZ
   have f9 := cS (p := 9) hMZ.g rfl
   obtain ⟨ei, _, _, a3, hinf, a31, a32⟩ := hv2.at_ i vw hvi
   have hI : aM 2 dB Z m2.ia m2.infos := hMZ.p.inf.is fun e a h => h
   obtain ⟨ee, bi, qi, hii, _, _, hei, _, hfi⟩ := aM.at hI (by decide) hinf
   have hei : ee = [.int .i64 vw.1, .int .i64 a3] := hei
   subst hei
   have l1 := hfi 1 _ rfl
   have hu : yG m2 ((i : Nat) : Int) := by
    have := hpre.lv i vw (by rw [← E2c]; exact hvi)
    rw [ei] at this
    rcases this with h | h
    ·omega
    ·exact h.mono E2a
   simp only [↓sU,sD,rE,↓reduceIte,rA, ei]
   refine aP ?_
   simp only [↓sU,sD,rE,↓reduceIte,rA, p0, aS, aR, aA, aB, f9, aG, hii, l1, p1, p2, p7]
   exact ⟨m2, (i : Int), a3, ⟨rfl, rfl, rfl, rfl, hv2, by omega, ⟨a31, a32⟩, .inl ⟨rfl, rfl, .inr ⟨hpn, by rw [Ba, hinf, e1], hu⟩⟩⟩, hMZ, eO.same (x7.trans sZ), rfl, rfl⟩
  ·refine ⟨offw bZ, ?_⟩
   have f9 := cS (p := 9) hMZ.g rfl
   have hinf : (m2.infos ++ [(⟨(pn : Int), a'⟩ : iC)])[m2.infos.length]? = some ⟨(pn : Int), a'⟩ := by rw [Ao (Af _), Ej]; rfl
   have hI : aM 2 dB Z ia' (m2.infos ++ [(⟨(pn : Int), a'⟩ : iC)]) := hMZ.p.inf.is fun e a h => h
   obtain ⟨ee, bi, qi, hii, _, _, hei, _, hfi⟩ := aM.at hI (by decide) hinf
   have hei : ee = [.int .i64 (pn : Int), .int .i64 a'] := hei
   subst hei
   have l1 := hfi 1 _ rfl
   try simp only [↓sU,sD,rE,↓reduceIte,rA]
   refine aP ?_
   simp only [↓sU,sD,rE,↓reduceIte,rA, p0, aS, aR, aA, aB, f9, aG, hii, l1, p1, p2, p7]
   refine ⟨{ m2 with va := va', ia := ia', views := m2.views ++ [((pn : Int), (lev : Int), ((m2.infos.length : Nat) : Int))], infos := m2.infos ++ [(⟨(pn : Int), a'⟩ : iC)] }, ((m2.infos.length : Nat) : Int), a', ⟨rfl, rfl, rfl, rfl, ⟨by simp [hv2.len], fun j w hw => ?_⟩, by omega, ⟨a1, a2⟩, .inr ⟨hpn, rfl, rfl, rfl⟩⟩, hMZ, (eO.same x7).trans bZ, rfl, rfl⟩
   have hw : (m2.views ++ [((pn : Int), (lev : Int), ((m2.infos.length : Nat) : Int))])[j]? = some w := hw
   show w.2.2 = (j : Int) ∧ 0 ≤ w.1 ∧ w.1 < m2.ps ∧ ∃ a, (m2.infos ++ [(⟨(pn : Int), a'⟩ : iC)])[j]? = some ⟨w.1, a⟩ ∧ 1 ≤ a ∧ a ≤ 3
   by_cases hj : j < m2.views.length
   ·rw [An hj] at hw
    obtain ⟨w1, w2, w3, a4, w4, w5⟩ := hv2.at_ j w hw
    exact ⟨w1, w2, w3, a4, by rw [An (by rw [← hv2.len]; exact hj)]; exact w4, w5⟩
   ·rw [Ao (by omega)] at hw
    have h0 : j - m2.views.length = 0 := by
     rcases Be (j - m2.views.length) with h | h
     ·exact h
     ·rw [Bl (by simp; omega)] at hw; cases hw
    rw [h0] at hw
    cases hw
    have hjl : j = m2.infos.length := by rw [← hv2.len]; omega
    subst hjl
    exact ⟨rfl, hpn, by rw [E2e]; exact q6, a', hinf, a1, a2⟩
 clear p0 p1 p2 p7 F
 rintro o ⟨F, inr⟩ X7 ⟨rfl, q0, m3, info, many, hf, hM7, b7, p0, p1, p2, p7, p8, p9, p10⟩
 simp only at q0 p0 p1 p2 p7 p8 p9 p10
 subst q0
 have k7 := k6.trans b7
 have hm1 := hf.many1
 have h2' : X7.h.get tb = some (.cells [.int .i64 pl, .int .i64 mn, .int .i64 sn] false 0) := (b7.2 tb ltb ptb).1.trans h2
 have ptb7 := (b7.2 tb ltb ptb).2
 have ltb7 : tb < X7.nx := by have := b7.1; omega
 have x7 := k7.1
 have f3 := cS (p := 3) hM7.g rfl
 have f4 := cS (p := 4) hM7.g rfl
 have e3 : m3.most = m.most := hf.most.trans E2d
 have e4 : m3.pend = m.pend - 1 := hf.pend.trans E2f
 have e5n : m3.nodes.length = m.nodes.length + 1 := by rw [hf.nodes, E2a, Ah]; rfl
 have e6n : m3.infos.length ≤ m.infos.length + 1 := by
  rcases hf.cases with ⟨b1, _, _⟩ | ⟨_, _, b1, _⟩
  ·rw [b1, E2b]; omega
  ·rw [b1, E2b, Ah, Aq]; omega
 have wA : IntKind.i64.wrap (((m.nodes.length : Nat) : Int) + 1) = ((m.nodes.length : Nat) : Int) + 1 := wrap_i64 (by omega) (by omega)
 have wB : IntKind.i64.wrap (((m.nodes.length : Nat) : Int) + 1 + m3.pend) = ((m.nodes.length : Nat) : Int) + 1 + m3.pend := wrap_i64 (by omega) (by omega)
 have wC : IntKind.i64.wrap (((m.nodes.length : Nat) : Int) + 1 + m3.pend + many) = ((m.nodes.length : Nat) : Int) + 1 + m3.pend + many := wrap_i64 (by omega) (by omega)
 try simp only [↓sU,sD,rE,↓reduceIte,rA]
 refine aD (aD (gE ?_))
 simp only [↓sU,sD,rE,↓reduceIte,rA, p0, p7, p9, aS, bH, aR, aA, aO, aB, f3, f4, wA, wB, wC]
 generalize hX8 : (⟨X7.h, X7.nx + _⟩ : St) = X8
 have s78 : Same X7 X8 := by rw [← hX8]; exact Same.nx _ _
 clear hX8
 have hM8 := hM7.same s78
 have k8 := k7.trans (eO.same s78)
 have h28 := (s78.2 _ ltb7).trans h2'
 have ltb8 : tb < X8.nx := Ae ltb7 s78.1
 by_cases hbig : ((m.nodes.length : Nat) : Int) + 1 + m3.pend + many > m3.most
 ·refine aY (by simp only [↓sU,sD,rE,↓reduceIte,rA, Ad hbig]) ?_
  have t08 := cS (p := 0) h28 rfl
  refine cF ?_
  simp only [↓sU,sD,rE,↓reduceIte,rA, p0, p8, p10, aA, aB, t08]
  refine bJ ?_
  simp only [↓sU,sD,rE,↓reduceIte,rA]
  refine aW (aGJ H hM8 hf.info0 hf.vok.len (by omega) (by omega)) ?_
  intro r Z hZ
  obtain ⟨m4, hM9, k9, E4⟩ : ∃ m4, kL P S0 Z mb db m4 LV ∧ eO mb db m X m4 Z ∧ (m4.nodes = m.nodes ++ [vS] ∧ m4.infos = m.infos ∧ m4.views = m.views ∧ m4.most = m.most ∧ m4.ps = m.ps ∧ m4.pend = m.pend - 1) := by
   rcases hZ with ⟨ho, hZX⟩ | ⟨z1, z2, z3, va', ia', hMZ, bZ⟩
   ·obtain ⟨w1, w2⟩ := (aCj hf hnd2).1 ho
    rw [hZX]
    exact ⟨m3, hM8, k8, hf.nodes.trans E2a, w1.trans E2b, w2.trans E2c, e3, hf.ps.trans E2e, e4⟩
   ·obtain ⟨w1, w2⟩ := (aCj hf hnd2).2 ⟨z1, z2, z3⟩
    exact ⟨_, hMZ, k8.trans bZ, hf.nodes.trans E2a, w1.trans E2b, w2.trans E2c, e3, hf.ps.trans E2e, e4⟩
  try simp only [↓sU,sD,rE,↓reduceIte,rA]
  refine cF ?_
  simp only [↓sU,sD,rE,↓reduceIte,rA, p0, p7]
  refine bJ ?_
  simp only [↓sU,sD,rE,↓reduceIte,rA]
  refine aW (aDE H hpre hp1 hM9 k9 E4) ?_
  intro r Z' hZ'
  try simp only [↓sU,sD,rE,↓reduceIte,rA]
  refine cF ?_
  simp only [↓sU,sD,rE,↓reduceIte,rA, p7]
  refine bD ?_
  simp only [↓sU,sD,rE,↓reduceIte,rA]
  exact hZ'
 refine aT (by simp only [↓sU,sD,rE,↓reduceIte,rA, Aa hbig]) (aN ?_)
 try simp only [↓sU,sD,rE,↓reduceIte,rA]
 refine aDd (fun F => aC 0 F = .ptr mb 0 ∧ aC 1 F = .int .i64 (lev : Int) ∧ aC 2 F = v ∧ aC 7 F = .int .i64 ((m.nodes.length : Nat) : Int) ∧ aC 8 F = .ptr tb 0 ∧ aC 9 F = .int .i64 many ∧ aC 10 F = .int .i64 info) (by refine ⟨?_,?_,?_,?_,?_,?_,?_⟩<;>simp only [↓sU,sD,rE,↓reduceIte,rA,p0,p1,p2,p7,p8,p9,p10]) ?_
 clear p0 p1 p2 p7 p8 p9 p10 F f3 f4
 rintro F ⟨p0, p1, p2, p7, p8, p9, p10⟩
 have f4 := cS (p := 4) hM8.g rfl
 have wD : IntKind.i64.wrap (m3.pend + many) = m3.pend + many := wrap_i64 (by omega) (by omega)
 refine cF ?_
 simp only [↓sU,sD,rE,↓reduceIte,rA, p0, p9, aS, aR, aA, aB, f4, wD]
 refine fX (v := .undef) (S1 := ⟨X8.h.set mb (some (.cells (dL db { m3 with pend := m3.pend + many }) false 0)), X8.nx⟩) (fun call => by simp only [↓sU,sD,rE,↓reduceIte,rA, dW, cT]; exact stc (cs := dL db m3) (p := 4) (S := X8) hM8.g (show 4 < 10 by omega)) ?_
 simp only [↓sU,sD,rE,↓reduceIte,rA]
 obtain ⟨X9, hX9⟩ : ∃ Z : St, Z = ⟨X8.h.set mb (some (.cells (dL db { m3 with pend := m3.pend + many }) false 0)), X8.nx⟩ := ⟨_, rfl⟩
 have hkp := hM8.p.keep (m' := { m3 with pend := m3.pend + many }) (X' := X8) (Af _) (fun _ _ _ _ => rfl) hM8.p.dr rfl rfl rfl rfl rfl rfl rfl rfl rfl
 have hM9 : kL P S0 X9 mb db { m3 with pend := m3.pend + many } LV := hkp.1.put (by rw [hX9]; simp only; rw [T.get_set, if_pos rfl]) (by rw [hX9]; exact Af _) fun c _ hne => by rw [hX9]; simp only; rw [T.get_set, if_neg hne]
 have k89 : eO mb db m3 X8 { m3 with pend := m3.pend + many } X9 := hkp.2.trans (by rw [hX9]; exact eO.put)
 rw [← hX9]
 clear hX9 hkp f4
 obtain ⟨m5, hm5⟩ : ∃ m5 : Mk, m5 = { m3 with pend := m3.pend + many } := ⟨_, rfl⟩
 rw [← hm5] at hM9 k89
 have E5 : m5.nodes = m3.nodes ∧ m5.infos = m3.infos ∧ m5.views = m3.views ∧ m5.most = m3.most ∧ m5.ps = m3.ps ∧ m5.pend = m3.pend + many := by rw [hm5]; exact ⟨rfl, rfl, rfl, rfl, rfl, rfl⟩
 clear hm5
 have k9 := k8.trans k89
 have ptb8 : PB mb db m3 tb := ptb7
 have h29 := (k89.2 tb ltb8 ptb8).1.trans h28
 have ptb9 := (k89.2 tb ltb8 ptb8).2
 have ltb9 : tb < X9.nx := Ae ltb8 k89.1
 have hb1 := fun (F : Fr) (h : Ev.T AB) => aLh (F := F) (h := h) (a := 1)
 refine cF ?_
 simp only [↓aH,aJ,rE,↓reduceIte, rA, hb1]
 refine dC ?_
 intro W1 v1 n1 h1
 refine dU (b := X9.nx) (cs' := [.int .i64 1, .int .i64 0, .int .i64 0, .nilsl, .nilsl, .nilsl]) (by simp only [↓aH,aJ,rE,↓reduceIte, rA]) (by simp only [↓aH,aJ,rE,↓reduceIte, rA]; exact bK _) h1 rfl rfl ?_
 intro X10 v2 n2 h10
 simp only [↓aH,aJ,rE,↓reduceIte, rA]
 have s910 : Same X9 X10 := v2.same v1 (Af _)
 have h210 := (s910.2 tb ltb9).trans h29
 have t0 := cS (p := 0) h210 rfl
 have lxb : X9.nx < X10.nx := by omega
 clear v1 v2 n1 n2 h1 W1
 refine aD (bN (Q := fun o A' Z => o = .normal ∧ A'.inr = false ∧ X10.nx ≤ Z.nx ∧ (∀ c, c < X10.nx → c ≠ X9.nx → Z.h.get c = X10.h.get c) ∧ Z.h.get X9.nx = some (.cells [.int .i64 (if pl < 0 then 1 else 2), .int .i64 (if pl < 0 then 0 else pl), .int .i64 (if pl < 0 then 0 else info), .nilsl, .nilsl, .nilsl] false 0) ∧ aC 0 A'.F = .ptr mb 0 ∧ aC 1 A'.F = .int .i64 (lev : Int) ∧ aC 2 A'.F = v ∧ aC 7 A'.F = .int .i64 ((m.nodes.length : Nat) : Int) ∧ aC 8 A'.F = .ptr tb 0 ∧ aC 9 A'.F = .int .i64 many ∧ aC 11 A'.F = .ptr X9.nx 0) (aD (aP ?_)) ?_)
 ·simp only [↓sU,sD,rE,↓reduceIte,rA, p8, aA, aB, t0]
  by_cases hpn : 0 ≤ pl
  ·rw [if_neg (by omega), if_neg (by omega), if_neg (by omega)]
   refine aY (by simp only [↓sU,sD,rE,↓reduceIte,rA, Ad (show pl ≥ 0 from hpn)]) ?_
   have hbm := fun (F : Fr) (h : Ev.T AB) (a : aC 128 F = .int .i64 pl) (b : aC 129 F = .int .i64 info) => aNM (F := F) (h := h) a b
   refine aP ?_
   simp only [↓sU,sD,rE,↓reduceIte,rA, p8, p10, aA, aB, t0, hbm]
   refine dU (b := X9.nx) (cs' := [.int .i64 2, .int .i64 pl, .int .i64 info, .nilsl, .nilsl, .nilsl]) (by simp only [↓sU,sD,rE,↓reduceIte,rA]) (by simp only [↓sU,sD,rE,↓reduceIte,rA]; exact bK _) h10 rfl rfl ?_
   intro Z z1 z2 z3
   simp only [↓sU,sD,rE,↓reduceIte,rA, p0, p1, p2, p7, p8, p9]
   exact ⟨z1.1, z1.2, z3⟩
  ·rw [if_pos (by omega), if_pos (by omega), if_pos (by omega)]
   refine aT (by simp only [↓sU,sD,rE,↓reduceIte,rA, Aa (show ¬ pl ≥ 0 from hpn)]) (aN ?_)
   simp only [↓sU,sD,rE,↓reduceIte,rA, p0, p1, p2, p7, p8, p9]
   exact ⟨Af _, fun _ _ _ => trivial, h10⟩
 clear p0 p1 p2 p7 p8 p9 p10 F
 rintro o ⟨F, inr⟩ X11 ⟨rfl, q0, n11, k11, g11, p0, p1, p2, p7, p8, p9, p11⟩
 simp only at q0 p0 p1 p2 p7 p8 p9 p11
 subst q0
 have pxb : PB mb db m5 X9.nx := hM9.p.fresh (Af _)
 have n910 := s910.1
 have n9 := k9.1
 have hM11 : kL (fun c => ((P c ∧ c < X.nx) ∨ X.nx ≤ c) ∧ c ≠ X9.nx) S0 X11 mb db m5 LV := by
  have h1 : kL (fun c => ((P c ∧ c < X.nx) ∨ X.nx ≤ c) ∧ c ≠ X9.nx) S0 X10 mb db m5 LV := (hM9.mono fun c hc h => ⟨(Cn c X.nx).elim (fun h' => .inl ⟨h, h'⟩) fun h' => .inr h', by omega⟩).same s910
  refine h1.local n11 fun c hc hor => k11 c hc fun e => ?_
  rcases hor with h | h
  ·exact h (by rw [e]; exact pxb)
  ·exact h.2 e
 have frm : ∀ c, c < X.nx → PB mb db m c → X11.h.get c = X.h.get c ∧ PB mb db m5 c := fun c hc hp => ⟨(k11 c (by omega) (by omega)).trans ((s910.2 c (by omega)).trans (k9.2 c hc hp).1), (k9.2 c hc hp).2⟩
 have hseen11 : rG (fun c => PB mb db m5 c ∧ (P c ∧ c < X.nx)) X11 v rows := hseen.move (by omega) fun c hc hp => ⟨(frm c hc hp.1).1, (frm c hc hp.1).2, hp.2, hc⟩
 have h211 := (k11 tb (by omega) (by omega)).trans h210
 obtain ⟨mn', rfl⟩ : ∃ mn' : Nat, many = (mn' : Int) := ⟨many.toNat, by omega⟩
 have e5ps : m5.ps = m.ps := E5.2.2.2.2.1.trans (hf.ps.trans E2e)
 have e5pd : m5.pend = m.pend - 1 + (mn' : Int) := by rw [E5.2.2.2.2.2, e4]
 try simp only [↓sU,sD,rE,↓reduceIte,rA]
 refine jH ?_
 simp only [↓sU,sD,rE,↓reduceIte,rA]
 refine aFi (P := fun c => P c ∧ c < X.nx) (X := X) (tb := tb) (xb := X9.nx) (m1 := m5) (pl := pl) (mn := mn) (sn := sn) (many := mn') (lev := lev) H hIH (fun c h => h.2) (by omega) hM11 hS (aIY hpre hp1 E2 hf E5 (by omega)) (by omega) (by omega) (by omega) (fun p hp => by rw [e5ps]; exact hLP p hp) hseen11 (by rw [e5ps]; exact hrn) hrl (by omega) (by omega) (by omega) (by omega) ptb9 pxb h211 g11 ⟨q4, q5⟩ (by simp only [↓sU,sD,rE,↓reduceIte,rA, p0]) (by simp only [↓sU,sD,rE,↓reduceIte,rA, p1]) (by simp only [↓sU,sD,rE,↓reduceIte,rA, p2]) (by simp only [↓sU,sD,rE,↓reduceIte,rA, p8]) (by simp only [↓sU,sD,rE,↓reduceIte,rA, p9]) (by simp only [↓sU,sD,rE,↓reduceIte,rA, p11]) (by simp only [↓sU,sD,rE,↓reduceIte,rA]; try rfl) ?_
 intro F' Y mi cs C ws xa xw hk hR
 have r0 := hk 0 (by omega)
 have r7 := hk 7 (by omega)
 have r11 := hk 11 (by omega)
 simp only [↓sU,sD,rE,↓reduceIte,rA, p0, p7, p11] at r0 r7 r11
 try simp only [↓sU,sD,rE,↓reduceIte,rA]
 have hMY : kL (fun c => P c ∨ X.nx ≤ c) S0 ⟨Y.h, Y.nx + 9⟩ mb db mi LV := (hR.mkb.same (Same.nx Y 9)).mono fun c _ h => h.1.elim (fun h => .inl h.1) .inr
 have nY := hR.nx
 have fk : (gJ pl info cs ws).kind = if pl < 0 then 1 else 2 := by unfold gJ; split <;> rfl
 have fp : (gJ pl info cs ws).player = if pl < 0 then 0 else pl := by unfold gJ; split <;> rfl
 have fi : (gJ pl info cs ws).info = if pl < 0 then 0 else info := by unfold gJ; split <;> rfl
 have fn : (gJ pl info cs ws).next = cs := by unfold gJ; split <;> rfl
 have fw : (gJ pl info cs ws).weights = ws := by unfold gJ; split <;> rfl
 have fy : (gJ pl info cs ws).pay = [] := by unfold gJ; split <;> rfl
 have hlen : m.nodes.length < mi.nodes.length := by rw [hR.bld.nodes, E5.1, Ah, e5n]; omega
 obtain ⟨b, p, Z, z1, z2, z3, z4, z5, z6⟩ := hMY.setN (i := m.nodes.length) (e := [.int .i64 (if pl < 0 then 1 else 2), .int .i64 (if pl < 0 then 0 else pl), .int .i64 (if pl < 0 then 0 else info), xa, xw, .nilsl]) (x := gJ pl info cs ws) hlen ⟨xa, xw, .nilsl, by rw [fk, fp, fi], by rw [fn]; exact (hR.ga.step (Same.nx Y 9)).is, by rw [fw]; exact (hR.gw.step (Same.nx Y 9)).is, by rw [fy]; exact .inl ⟨rfl, .inl rfl⟩, fun c hc => by
  rcases hc with hc | hc | hc
  ·exact ⟨hR.pa c hc, .inr (by have := (hR.ga.blk hc).1; omega)⟩
  ·exact ⟨hR.pw c hc, .inr (by have := (hR.gw.blk hc).1; omega)⟩
  ·cases hc⟩
 have f8' := cS (p := 8) hR.mkb.g rfl
 have lag := ldN hR.gx
 have sna := hR.mkb.p.nod.self
 have sxa := hR.ga.self
 have sxw := hR.gw.self
 have sx := pV (k := .i64) (x0 := if pl < 0 then 1 else 2) (x1 := if pl < 0 then 0 else pl) (x2 := if pl < 0 then 0 else info) (a := xa) (b := xw) (c := .nilsl) sxa sxw rfl
 have hnb := aIR (m' := { mi with nodes := mi.nodes.set m.nodes.length (gJ pl info cs ws) }) hpre hp1 q6 E2 hf E5 hR.bld rfl hR.len hR.forT hR.wts rfl rfl rfl rfl rfl rfl
 rw [show LV.length - (lev + 1) + 1 = LV.length - lev by omega] at hnb
 generalize (if pl < 0 then (1 : Int) else 2) = i0 at *
 generalize (if pl < 0 then (0 : Int) else pl) = i1 at *
 generalize (if pl < 0 then (0 : Int) else info) = i2 at *
 refine aD (mL (pre := aJt) (K := 8) (m := 255) (n := 6) (x := .t 202) (v := .t 201) rfl rfl rfl rfl ?_)
 unfold aJt
 simp only [↓sU,sD,rE,↓reduceIte,rA, r0, r7, r11, aS, bH, aR, aA, aO, aB, f8', sna, lag, sx, aG, z1]
 rw [show (AV.agg [.int .i64 i0, .int .i64 i1, .int .i64 i2, xa, xw, .nilsl]).cells = some [.int .i64 i0, .int .i64 i1, .int .i64 i2, xa, xw, .nilsl] from bK _, aE]
 refine ⟨Z, z3, ?_⟩
 refine cF ?_
 simp only [↓sU,sD,rE,↓reduceIte,rA, r7]
 refine bD ?_
 simp only [↓sU,sD,rE,↓reduceIte,rA]
 refine ⟨_, _, hnb.1, hnb.2, z5, ⟨by rw [z4]; show X.nx ≤ Y.nx + 9; omega, fun c hc hp => ?_⟩⟩
 obtain ⟨y1, y2⟩ := frm c hc hp
 obtain ⟨y3, y4⟩ := hR.frm c (by omega) y2
 obtain ⟨y5, y6⟩ := z6.2 c (by show c < Y.nx + 9; omega) y3
 exact ⟨y5.trans ((y4 (by omega)).trans y1), y6⟩
theorem aDR {S0 : St} {mb db : Nat} {LV : List (Int × Int × Int)} (H : Has fns) (hLV : ∀ p ∈ LV, -1 ≤ p.1 ∧ 2 ≤ p.2.1 ∧ p.2.1 ≤ 3 ∧ 0 ≤ p.2.2 ∧ p.2.2 ≤ 1000) (hLl : LV.length ≤ 700) : ∀ n lev, lev + n = LV.length → aAw fns S0 mb db LV lev
 | 0, lev, h => aAK H hLV hLl (by omega) fun h' => by omega
 | n + 1, lev, h => aAK H hLV hLl (by omega) fun _ => aDR H hLV hLl n (lev + 1) (by omega)
noncomputable def aM7 : List AO := [mt 33 9,
mt 34 9,
om 35 2 (.nilchk (.t 34)),
om 36 6 (.faddr 1 (.t 35)),
om 37 14 (ld 36),
mt 38 9,
om 39 32 (.nilchk (.t 38)),
om 40 96 (.faddr 0 (.t 39)),
om 41 224 (ld 40),
mt 42 1,
om 43 512 (bi .add (.t 42) (ci 1)),
oc 44 38 [(.t 41),(.t 43)] 2016,
om 45 4064 (bi .sub (.t 44) (ci 1)),
mt 46 9,
om 47 8192 (.nilchk (.t 46)),
om 48 24576 (.faddr 0 (.t 47)),
om 49 57344 (ld 48),
oc 50 38 [(.t 49),(ci 2)] 126944,
om 51 258016 (bi .add (ci 2) (.t 50)),
mt 52 9,
om 53 524288 (.nilchk (.t 52)),
om 54 1572864 (.faddr 0 (.t 53)),
om 55 3670016 (ld 54),
oc 56 38 [(.t 55),(ci 16)] 8122336,
om 57 16777184 (.build [(.int .i64 (.ofNat 0)),(.int .i64 (.ofNat 0)),(.int .i64 (.ofNat 0))] [(0,1,(.t 45)),(1,1,(.t 51)),(2,1,(.t 56))]),
⟨(some 58),(.a (.bslice 131 3 1 [(.int .i64 (.ofNat 0)),(.int .i64 (.ofNat 0)),(.int .i64 (.ofNat 0))] [(0,(.t 57))])),none,33554400⟩]
noncomputable def aNk : List AO := [⟨(some 59),(.x (.app 131 3 24 (.t 37) (.t 58))),none,67108862⟩,
om 60 134217727 (.nilchk (.t 33)),
om 61 268435455 (.faddr 1 (.t 60)),
⟨none,(.x (.st 1 (.t 61) (.t 59))),none,536870911⟩]
def PlB (cs : List AV) (a : Int × Int × Int) : Prop := cs = [.int .i64 a.1, .int .i64 a.2.1, .int .i64 a.2.2]
theorem aOo {F : Fr} {h : Ev.T AB} {a b c : Int} (h45 : aC 45 F = .int .i64 a) (h51 : aC 51 F = .int .i64 b) (h56 : aC 56 F = .int .i64 c) : gR (.build [.int .i64 0, .int .i64 0, .int .i64 0] [(0, 1, .t 45), (1, 1, .t 51), (2, 1, .t 56)]) F h = some (.agg [.int .i64 a, .int .i64 b, .int .i64 c]) := by
 show (bE (eF _ (dJ F [(0, 1, .t 45), (1, 1, .t 51), (2, 1, .t 56)])) fun cs => some (AV.agg cs)) = _
 simp only [dJ, show (cK.t 45).val F = .int .i64 a from h45, show (cK.t 51).val F = .int .i64 b from h51, show (cK.t 56).val F = .int .i64 c from h56, eF, cT, aE]
 rfl
def aOq (X : St) (F : Fr) (mb db : Nat) (lvl lv : AV) (dl : List Int) (ps : Int) (F' : Fr) (Z : St) (qs : List gL) : Prop := ∃ a b c : Int, -1 ≤ a ∧ a < ps ∧ 2 ≤ b ∧ b ≤ 3 ∧ 0 ≤ c ∧ c ≤ 15 ∧ qs = [⟨25, X.nx + 25, .cells [.int .i64 a, .int .i64 b, .int .i64 c] false 0⟩] ∧ X.nx + 30 ≤ Z.nx ∧ cU db X Z ∧ nD Z db lv dl ∧ (∀ j, j < 11 → aC j F' = aC j F) ∧ aC 33 F' = .ptr mb 0 ∧ aC 37 F' = lvl ∧ aC 58 F' = .sl (X.nx + 25) 0 1 1 false
theorem aKB {ops : List AO} {S X : St} {F : Fr} {inr : Bool} {mb db : Nat} {m : Mk} {LV : List (Int × Int × Int)} {ps : Int} {Q : Out → bT → St → Prop} (H : Has fns) (he : ops = aM7 ++ aNk) (gm : X.h.get mb = some (.cells (dL db m) false 0)) (lmb : mb < X.nx) (nmd : mb ≠ db) (hd : nD X db m.lv m.dl) (ha : pY 3 PlB S X m.lvl LV) (hS : S.nx ≤ X.nx) (dn : ∀ c, aQ m.lvl = some c → c ≠ mb ∧ c ≠ db ∧ aQ m.lv ≠ some c) (dm : ∀ c, aQ m.lv = some c → c ≠ mb) (p9 : aC 9 F = .ptr mb 0) (p1 : aC 1 F = .int .i64 ps) (hps : 1 ≤ ps ∧ ps ≤ 4) (hl : LV.length ≤ 100)
  (hQ : ∀ F' Z lvl' a b c, (∀ j, j < 11 → aC j F' = aC j F) → -1 ≤ a → a < ps → 2 ≤ b → b ≤ 3 → 0 ≤ c → c ≤ 15 → Z.h.get mb = some (.cells (dL db { m with lvl := lvl' }) false 0) → nD Z db m.lv m.dl → pY 3 PlB S Z lvl' (LV ++ [(a, b, c)]) → X.nx ≤ Z.nx → (∀ k, k < X.nx → k ≠ mb → k ≠ db → aQ m.lvl ≠ some k → Z.h.get k = X.h.get k) → (∀ k, aQ lvl' = some k → aQ m.lvl = some k ∨ X.nx ≤ k) → Q .normal ⟨F', inr⟩ Z) : kH fns (.drw ops) ⟨F, inr⟩ X Q := by
 have hlen : ops.length = 30 := by rw [he]; rfl
 have f0 := cS (p := 0) gm rfl
 have f1 := cS (p := 1) gm rfl
 have slv := ha.self
 have wps : IntKind.i64.wrap (ps + 1) = ps + 1 := wrap_i64 (by omega) (by omega)
 refine aAM 67108862 (W := fun c => c = db) (K := 26) (R := aOq X F mb db m.lvl m.lv m.dl ps) he rfl rfl rfl (fun X1 x1 hh1 nn1 => ?_) ?_
 ·have hd1 := hd.move x1.1 (x1.2 _ hd.lt) fun c hc => x1.2 c (dV hd.il hc)
  unfold aM7
  simp only [↓sU,sD,rE,↓reduceIte,rA, p1, p9, aS, bH, aR, aA, aO, aB, f0, f1, slv, lmb, nmd, Ax, wps]
  refine jN rfl ?_
  simp only [↓sU,sD,rE,↓reduceIte,rA]
  refine aW (jP H hd1 (n := ps + 1) (by omega) (by omega)) ?_
  rintro _ X2 ⟨x2, d2, a, rfl, a1, a2⟩
  refine ⟨⟨x2.1, fun c hc hne => x2.2 c (Ae hc x1.1) hne⟩, ?_⟩
  have wa : IntKind.i64.wrap (a - 1) = a - 1 := wrap_i64 (by omega) (by omega)
  simp only [↓sU,sD,rE,↓reduceIte,rA, p9, aS, bH, aR, aA, aO, aB, f0, lmb, nmd, Ax, wa]
  refine jN rfl ?_
  simp only [↓sU,sD,rE,↓reduceIte,rA]
  refine aW (jP H d2 (n := 2) (by decide) (by decide)) ?_
  rintro _ X3 ⟨x3, d3, b, rfl, b1, b2⟩
  have n12 : X1.nx ≤ X2.nx := x2.1
  refine ⟨⟨x3.1, fun c hc hne => x3.2 c (by have := x1.1; show c < X2.nx; omega) hne⟩, ?_⟩
  have wb : IntKind.i64.wrap (2 + b) = 2 + b := wrap_i64 (by omega) (by omega)
  simp only [↓sU,sD,rE,↓reduceIte,rA, p9, aS, bH, aR, aA, aO, aB, f0, lmb, nmd, Ax, wb]
  refine jN rfl ?_
  simp only [↓sU,sD,rE,↓reduceIte,rA]
  refine aW (jP H d3 (n := 16) (by decide) (by decide)) ?_
  rintro _ X4 ⟨x4, d4, c, rfl, c1, c2⟩
  have n23 : X2.nx ≤ X3.nx := x3.1
  have n34 : X3.nx ≤ X4.nx := x4.1
  refine ⟨⟨x4.1, fun k hk hne => x4.2 k (by have := x1.1; show k < X3.nx; omega) hne⟩, ?_⟩
  have hbl := fun (F : Fr) (h : Ev.T AB) (u : aC 45 F = .int .i64 (a - 1)) (v : aC 51 F = .int .i64 (2 + b)) (w : aC 56 F = .int .i64 c) => aOo (F := F) (h := h) u v w
  have hib : dH (.build [.int .i64 0, .int .i64 0, .int .i64 0] [(0, 1, .t 45), (1, 1, .t 51), (2, 1, .t 56)]) = false := rfl
  have he1 := fun (F : Fr) (id : Nat) (h : aC 57 F = .agg [.int .i64 (a - 1), .int .i64 (2 + b), .int .i64 c]) => aLZ (t := 131) (z0 := .int .i64 0) (z1 := .int .i64 0) (z2 := .int .i64 0) (x := .t 57) (F := F) (id := id) h
  simp only [↓sU,sD,rE,↓reduceIte,rA, hbl, hib, he1]
  refine ⟨a - 1, 2 + b, c, by omega, by omega, by omega, by omega, by omega, by omega, by simp only [↓sU,sD,rE,↓reduceIte,rA], by omega, ⟨by have := x1.1; omega, fun k hk hne => ?_⟩, d4, fun j hj => ?_, by refine ⟨?_,?_,?_⟩<;>simp only [↓sU,sD,rE,↓reduceIte,rA]⟩
  ·have h1 := x1.1
   rw [x4.2 k (by show k < X3.nx; omega) hne, x3.2 k (by show k < X2.nx; omega) hne, x2.2 k (by show k < X1.nx; omega) hne]
   exact x1.2 k hk
  ·have : j = 0 ∨ j = 1 ∨ j = 2 ∨ j = 3 ∨ j = 4 ∨ j = 5 ∨ j = 6 ∨ j = 7 ∨ j = 8 ∨ j = 9 ∨ j = 10 := by omega
   rcases this with rfl | rfl | rfl | rfl | rfl | rfl | rfl | rfl | rfl | rfl | rfl <;> simp only [↓sU,sD,rE,↓reduceIte,rA]
 rintro F' S' qs hs' ls ⟨a, b, c, a1, a2, b1, b2, c1, c2, rfl, nZ, sZ, dZ, hk, pA, pB, pC⟩ hlast hld
 obtain ⟨U, hU⟩ : ∃ U : St, U = ⟨S'.h.set (X.nx + 25) (some (.cells [.int .i64 a, .int .i64 b, .int .i64 c] false 0)), S'.nx⟩ := ⟨_, rfl⟩
 have nU : U.nx = S'.nx := by rw [hU]
 have kU : ∀ k, k ≠ X.nx + 25 → U.h.get k = S'.h.get k := fun k hk => by rw [hU]; simp only; rw [T.get_set, if_neg hk]
 have gU : U.h.get (X.nx + 25) = some (.cells [.int .i64 a, .int .i64 b, .int .i64 c] false 0) := by rw [hU]; simp only; rw [T.get_set, if_pos rfl]
 have kX : ∀ k, k < X.nx → k ≠ db → U.h.get k = X.h.get k := fun k hk hne => (kU k (by omega)).trans (sZ.2 k hk hne)
 have lowl : ∀ {k}, aQ m.lvl = some k → k < X.nx := fun hc => (ha.blk hc).2
 have haU : pY 3 PlB S U m.lvl LV := ha.move (by omega) (fun k hk => kX k (lowl hk) (dn k hk).2.1) fun _ _ h => h
 obtain ⟨v', V, eA, aV, nV, kV, bV⟩ := haU.push (bytes := 24) (x := .sl (X.nx + 25) 0 1 1 false) (a := (a, b, c)) (by decide) (by omega) rfl (aIj gU rfl) rfl (show PlB [.int .i64 a, .int .i64 b, .int .i64 c] (a, b, c) from rfl) (by unfold room; omega) (by unfold room; omega)
 have gmV : V.h.get mb = some (.cells (dL db m) false 0) := (kV mb (by omega) fun e => (dn mb e).1 rfl).trans ((kX mb lmb nmd).trans gm)
 unfold aNk
 refine kE (v := v') (S1 := V) hlast (fun call => ?_) ?_
 ·rw [cR (show Nat.testBit 67108862 25 = true by decide), fU]
  simp only [iJ, pB, pC]
  rw [← hU]
  exact eA
 rw [cR (show Nat.testBit 67108862 25 = true by decide)]
 simp only [iU, dP, aS, bH, aR, aA, aB, aO, aL, iJ, cA, bL, pA, rE, ↓reduceIte, rA]
 have gAc : v'.cells = some [v'] := aV.cells
 refine kE (v := .undef) (S1 := ⟨V.h.set mb (some (.cells (dL db { m with lvl := v' }) false 0)), V.nx⟩) (show Nat.testBit 536870911 26 = true by decide) (fun call => ?_) ?_
 ·rw [dW]
  simp only [iJ, bL, rE, ↓reduceIte, cA, gAc, aE]
  exact stc (cs := dL db m) (p := 1) (S := V) gmV (show 1 < 10 by omega)
 rw [jR]
 refine ⟨?_, ?_⟩
 ·simp only [Cz, Bf, Dj, Cp, Bw]
  exact hld _ _
 ·simp only [cA, gH]
  have kF : ∀ k, k < S'.nx → k ≠ X.nx + 25 → k ≠ mb → aQ m.lvl ≠ some k → (V.h.set mb (some (.cells (dL db { m with lvl := v' }) false 0))).get k = S'.h.get k := fun k h1 h2 h3 h4 => by
   rw [T.get_set, if_neg h3, kV k (by omega) h4, kU k h2]
  have hlvb := fun {k} (hk : aQ m.lv = some k) => dV hd.il hk
  refine hQ _ _ v' a b c (fun j hj => ?_) a1 a2 b1 b2 c1 c2 (by simp only; rw [T.get_set, if_pos rfl]) (dZ.move (by show S'.nx ≤ V.nx; omega) (kF db dZ.lt (by have := hd.lt; omega) nmd.symm fun e => (dn db e).2.1 rfl) fun k hk => kF k (by have := hlvb hk; omega) (by have := hlvb hk; omega) (dm k hk) fun e => (dn k e).2.2 hk) (aV.move (Af _) (fun k hk => ?_) fun _ _ h => h) (by show X.nx ≤ V.nx; omega) (fun k h1 h2 h3 h4 => ?_) (fun k hk => ?_)
  ·rw [bL, if_neg (by omega), bL, if_neg (by omega), bL, if_neg (by omega)]
   exact hk j hj
  ·simp only
   rw [T.get_set, if_neg]
   rcases bV k hk with h | h
   ·exact (dn k h).1
   ·omega
  ·simp only
   rw [kF k (by omega) (by omega) h2 h4]
   exact sZ.2 k h1 h3
  ·rcases bV k hk with h | h
   ·exact .inl h
   ·exact .inr (by omega)
theorem aN5 {F : Fr} {h : Ev.T AB} {lv : AV} (h11 : aC 11 F = lv) (hc : lv.cells = some [lv]) : gR (.build [.nilsl, .int .i64 0] [(0, 1, .t 11)]) F h = some (.agg [lv, .int .i64 0]) := by
 show (bE (eF _ (dJ F [(0, 1, .t 11)])) fun cs => some (AV.agg cs)) = _
 simp only [dJ, show (cK.t 11).val F = lv from h11, eF, hc, aE]
 rfl
theorem aOr {F : Fr} {h : Ev.T AB} {db : Nat} {most : Int} {zero : Bool} (h13 : aC 13 F = .ptr db 0) (h14 : aC 14 F = .int .i64 most) (h15 : aC 15 F = .bool zero) : gR (.build [.nilp, .nilsl, .nilsl, .int .i64 0, .int .i64 0, .bool false, .bool false, .int .i64 0, .nilsl, .nilsl] [(0, 1, .t 13), (3, 1, .t 14), (4, 1, .c (.int .i64 1)), (5, 1, .t 15)]) F h = some (.agg [.ptr db 0, .nilsl, .nilsl, .int .i64 most, .int .i64 1, .bool zero, .bool false, .int .i64 0, .nilsl, .nilsl]) := by
 show (bE (eF _ (dJ F [(0, 1, .t 13), (3, 1, .t 14), (4, 1, .c (.int .i64 1)), (5, 1, .t 15)])) fun cs => some (AV.agg cs)) = _
 simp only [dJ, show (cK.t 13).val F = .ptr db 0 from h13, show (cK.t 14).val F = .int .i64 most from h14, show (cK.t 15).val F = .bool zero from h15, aEQ, eF, cT, aFT, show (AV.ptr db 0).cells = some [.ptr db 0] from rfl, aE]
 rfl
theorem aKc {h : Ev.T AB} {b : Nat} {a0 a1 a2 a3 a4 a5 a6 x y z : AV} {o : Bool} {s : Nat} (hb : h.get b = some (.cells [a0, a1, a2, a3, a4, a5, a6, x, y, z] o s)) : fH (.ptr b 7) true 3 h = some (.agg [x, y, z]) := by
 simp only [fH, oD, aF, tV, cP, hb, aE]
 rfl
def mk0 (lv lvl : AV) (dl : List Int) (ps most : Int) (zero : Bool) : Mk := ⟨lvl, .nilsl, .nilsl, .nilsl, lv, most, 1, ps, zero, false, dl, [], [], []⟩
def aN4 (ps : Int) (LV : List (Int × Int × Int)) : Prop := ∀ p ∈ LV, (-1 ≤ p.1 ∧ p.1 < ps) ∧ (2 ≤ p.2.1 ∧ p.2.1 ≤ 3) ∧ 0 ≤ p.2.2 ∧ p.2.2 ≤ 1000
def GmI (S : St) (gb db mb : Nat) (lv : AV) (dl : List Int) (ps most : Int) (zero : Bool) (k : Nat) (A : bT) (X : St) : Prop := A.inr = false ∧ mb < X.nx ∧ Same S X ∧ X.h.get gb = some (.cells [.int .i64 0, .nilsl, .nilsl] false 0) ∧ ∃ (lvl : AV) (LV : List (Int × Int × Int)), X.h.get mb = some (.cells (dL db (mk0 lv lvl dl ps most zero)) false 0) ∧ nD X db lv dl ∧ pY 3 PlB S X lvl LV ∧ (∀ c, aQ lvl = some c → c ≠ gb ∧ c ≠ mb ∧ c ≠ db ∧ aQ lv ≠ some c) ∧ aN4 ps LV ∧ LV.length + k ≤ 5 ∧ aC 1 A.F = .int .i64 ps ∧ aC 8 A.F = .ptr gb 0 ∧ aC 9 A.F = .ptr mb 0 ∧ aC 10 A.F = .int .i64 (k : Int)
theorem aDK {S : St} {lv : AV} {dl : List Int} {ps most : Int} {zero : Bool} (H : Has fns) (hl : bO .i64 S lv dl) (hbd : dl.length ≤ 140737488355328) (hps : 1 ≤ ps ∧ ps ≤ 4) (hm : 1 ≤ most ∧ most ≤ 200) :
  iM fns (.fn 37 [] []) [lv, .int .i64 ps, .int .i64 most, .bool zero] S fun r Z => Same S Z ∧ ∃ (g : bF) (nv iv : AV), r = .agg [.int .i64 g.players, nv, iv] ∧ g.players = ps ∧ dF g = 0 ∧ ((g.nodes.length : Nat) : Int) ≤ most ∧ (∀ x ∈ g.nodes, gT g.players g.infos x) ∧ ((∃ k, k ≤ 5 ∧ oW k 0 g.nodes) ∧ eR (g.nodes.map tP) g.infos.length) ∧ aM 6 cL Z nv g.nodes ∧ aM 2 dB Z iv g.infos ∧ ∀ X' : St, Z.nx ≤ X'.nx → (∀ c, c < Z.nx → (S.nx ≤ c ∨ aQ lv = some c) → X'.h.get c = Z.h.get c) → aM 6 cL X' nv g.nodes ∧ aM 2 dB X' iv g.infos := by
 have hlc := bO.cells hl
 refine cV H.f37 (by simp) ?_
 simp only [↓sU,sD,rE,↓reduceIte,rA]
 refine cF ?_
 refine dC ?_
 intro S1 s1 n1 g1
 simp only [↓aH,aJ,rE,↓reduceIte, rA]
 have hbd1 := fun (F : Fr) (h : Ev.T AB) (a : aC 11 F = lv) => aN5 (F := F) (h := h) a hlc
 have hbd2 := fun (F : Fr) (h : Ev.T AB) (a : aC 13 F = .ptr S1.nx 0) (b : aC 14 F = .int .i64 most) (c : aC 15 F = .bool zero) => aOr (F := F) (h := h) a b c
 refine cF ?_
 simp only [↓aH,aJ,rE,↓reduceIte, rA, hbd1]
 refine eQ (cs := [lv, .int .i64 0]) (by simp only [↓aH,aJ,rE,↓reduceIte, rA]; exact bK _) ?_
 intro S2 s2 n2 g2
 simp only [↓aH,aJ,rE,↓reduceIte, rA, hbd2]
 refine eQ (cs := [.ptr S1.nx 0, .nilsl, .nilsl, .int .i64 most, .int .i64 1, .bool zero, .bool false, .int .i64 0, .nilsl, .nilsl]) (by simp only [↓aH,aJ,rE,↓reduceIte, rA]; exact bK _) ?_
 intro S3 s3 n3 g3
 simp only [↓aH,aJ,rE,↓reduceIte, rA]
 refine cF ?_
 simp only [↓sU,sD,rE,↓reduceIte,rA, aS, aR, aA, aB]
 refine fX (v := .undef) (S1 := ⟨S3.h.set S2.nx (some (.cells (dL S1.nx (mk0 lv .nilsl dl ps most zero)) false 0)), S3.nx⟩) (fun call => by simp only [↓sU,sD,rE,↓reduceIte,rA, dW, cT]; exact stc (cs := [.ptr S1.nx 0, .nilsl, .nilsl, .int .i64 most, .int .i64 1, .bool zero, .bool false, .int .i64 0, .nilsl, .nilsl]) (p := 7) (S := S3) g3 (show 7 < 10 by omega)) ?_
 simp only [↓sU,sD,rE,↓reduceIte,rA]
 obtain ⟨S4, hS4⟩ : ∃ Z : St, Z = ⟨S3.h.set S2.nx (some (.cells (dL S1.nx (mk0 lv .nilsl dl ps most zero)) false 0)), S3.nx⟩ := ⟨_, rfl⟩
 have n4 : S4.nx = S3.nx := by rw [hS4]
 have k4 : ∀ c, c ≠ S2.nx → S4.h.get c = S3.h.get c := fun c hc => by rw [hS4]; simp only; rw [T.get_set, if_neg hc]
 have gm4 : S4.h.get S2.nx = some (.cells (dL S1.nx (mk0 lv .nilsl dl ps most zero)) false 0) := by rw [hS4]; simp only; rw [T.get_set, if_pos rfl]
 rw [← hS4]
 clear hS4 g3
 have sS4 : Same S S4 := ⟨by omega, fun c hc => by rw [k4 c (by omega), s3.2 c (by omega), s2.2 c (by omega)]; exact s1.2 c hc⟩
 have gg4 : S4.h.get S.nx = some (.cells [.int .i64 0, .nilsl, .nilsl] false 0) := by rw [k4 _ (by omega), s3.2 _ (by omega), s2.2 _ (by omega)]; exact g1
 have gd4 : S4.h.get S1.nx = some (.cells [lv, .int .i64 ((0 : Nat) : Int)] false 0) := by rw [k4 _ (by omega), s3.2 _ (by omega)]; exact g2
 have hlow := fun {c} (hc : aQ lv = some c) => dV hl hc
 have hd4 : nD S4 S1.nx lv dl := ⟨by omega, ⟨0, gd4, Ci _⟩, hl.same sS4, fun e => by have := hlow e; omega, hbd⟩
 have f0 := cS (p := 0) gm4 rfl
 refine jH ?_
 simp only [↓sU,sD,rE,↓reduceIte,rA, aS, aR, aA, aB, f0]
 refine bJ ?_
 simp only [↓sU,sD,rE,↓reduceIte,rA]
 refine aW (jP H hd4 (n := 5) (by decide) (by decide)) ?_
 rintro _ S5 ⟨x5, hd5, y, rfl, y1, y2⟩
 have wy : IntKind.i64.wrap (1 + y) = ((1 + y.toNat : Nat) : Int) := by rw [wrap_i64 (by omega) (by omega)]; omega
 simp only [↓sU,sD,rE,↓reduceIte,rA, wy]
 have n5 := x5.1
 have k5 : ∀ c, c < S4.nx → c ≠ S1.nx → S5.h.get c = S4.h.get c := x5.2
 refine bN (Q := fun o A' X => o = .normal ∧ GmI S S.nx S1.nx S2.nx lv dl ps most zero 0 A' X) (aU (cI (GmI S S.nx S1.nx S2.nx lv dl ps most zero) ?_ (1 + y.toNat) _ _ ⟨rfl, by omega, ⟨by omega, fun c hc => (k5 c (by omega) (by omega)).trans (sS4.2 c hc)⟩, (k5 _ (by omega) (by omega)).trans gg4, .nilsl, [], (k5 _ (by omega) (by omega)).trans gm4, hd5, pY.none, fun c hc => (by cases hc), fun p hp => (by cases hp), by show 0 + (1 + y.toNat) ≤ 5; omega, by refine ⟨?_,?_,?_,?_⟩<;>simp only [↓sU,sD,rE,↓reduceIte,rA]⟩)) ?_
 ·clear f0 hd4 gd4 gg4 gm4 k4 hd5 x5 k5 sS4 g1 g2 s1 s2 s3
  rintro k ⟨F, inr⟩ X ⟨q0, lmb, sX, gX, lvl, LV, gm, hd, ha, hdj, hok, hlen, p1, p8, p9, p10⟩
  simp only at q0 p1 p8 p9 p10
  subst q0
  refine jH ?_
  simp only [↓sU,sD,rE,↓reduceIte,rA, p10]
  rcases Be k with hk0 | hkp
  ·subst hk0
   refine aT (by simp only [↓sU,sD,rE,↓reduceIte,rA]; rfl) (cC ?_)
   simp only [↓sU,sD,rE,↓reduceIte,rA]
   exact ⟨rfl, lmb, sX, gX, lvl, LV, gm, hd, ha, hdj, hok, hlen, by refine ⟨?_,?_,?_,?_⟩<;>simp only [↓sU,sD,rE,↓reduceIte,rA,p1,p8,p9,p10]⟩
  refine aY (by simp only [↓sU,sD,rE,↓reduceIte,rA, Ad (show (k : Int) > 0 by omega)]) (aN ?_)
  try simp only [↓sU,sD,rE,↓reduceIte,rA]
  have wk : IntKind.i64.wrap ((k : Int) - 1) = ((k - 1 : Nat) : Int) := by rw [wrap_i64 (by omega) (by omega)]; omega
  refine aD (aU ?_)
  refine aKB (S := S) (mb := S2.nx) (db := S1.nx) (m := mk0 lv lvl dl ps most zero) (LV := LV) (ps := ps) H rfl gm lmb (by omega) hd ha sX.1 (fun c hc => ⟨(hdj c hc).2.1, (hdj c hc).2.2.1, (hdj c hc).2.2.2⟩) (fun c hc => by have := hlow hc; omega) (by simp only [↓sU,sD,rE,↓reduceIte,rA, p9]) (by simp only [↓sU,sD,rE,↓reduceIte,rA, p1]) hps (by omega) ?_
  intro F' Z lvl' a b c hk a1 a2 b1 b2 c1 c2 gmZ dZ aZ nZ kZ bZ
  have r1 := hk 1 (by omega)
  have r8 := hk 8 (by omega)
  have r9 := hk 9 (by omega)
  have r10 := hk 10 (by omega)
  simp only [↓sU,sD,rE,↓reduceIte,rA, p1, p8, p9, p10] at r1 r8 r9 r10
  try simp only [↓sU,sD,rE,↓reduceIte,rA]
  refine aP ?_
  simp only [↓sU,sD,rE,↓reduceIte,rA, r10, wk]
  have nX := sX.1
  refine ⟨k - 1, by omega, rfl, by omega, ⟨by omega, fun j hj => (kZ j (by omega) (by omega) (by omega) (fun e => by have := (ha.blk e).1; omega)).trans (sX.2 j hj)⟩, (kZ _ (by omega) (by omega) (by omega) (fun e => (hdj _ e).1 rfl)).trans gX, lvl', LV ++ [(a, b, c)], gmZ, dZ, aZ, fun j hj => ?_, fun p hp => ?_, by rw [Ah, Aq]; omega, by refine ⟨?_,?_,?_,?_⟩<;>simp only [↓sU,sD,rE,↓reduceIte,rA,r1,r8,r9]⟩
  ·rcases bZ j hj with h | h
   ·exact hdj j h
   ·exact ⟨by omega, by omega, by omega, fun e => by have := hlow e; omega⟩
  ·rcases Bh.1 hp with h | h
   ·exact hok p h
   ·rw [Cf.1 h]
    exact ⟨⟨a1, a2⟩, ⟨b1, b2⟩, c1, by show c ≤ 1000; omega⟩
 clear f0 hd4 gd4 gg4 gm4 k4 hd5 x5 k5 sS4 g1 g2 s1 s2 s3
 rintro o ⟨F, inr⟩ X ⟨rfl, q0, lmb, sX, gX, lvl, LV, gm, hd, ha, hdj, hok, hlen, p1, p8, p9, _⟩
 simp only at q0 p1 p8 p9
 subst q0
 have nX := sX.1
 obtain ⟨pn, rfl⟩ : ∃ pn : Nat, ps = (pn : Int) := ⟨ps.toNat, by omega⟩
 try simp only [↓sU,sD,rE,↓reduceIte,rA]
 refine cF ?_
 simp only [↓aH,aJ,rE,↓reduceIte, rA, p1, p9]
 refine iO (qR (n := pn) (by simp only [↓aH,aJ,rE,↓reduceIte, rA, aG]) (by simp only [↓aH,aJ,rE,↓reduceIte, rA, aG]) (by unfold room; omega) (by unfold room; omega)) ?_
 intro X1 x1 m1 g1
 rw [repeatL_one] at g1
 try simp only [↓aH,aJ,rE,↓reduceIte, rA]
 refine bJ ?_
 simp only [↓sU,sD,rE,↓reduceIte,rA]
 have hlv : aM 3 PlE X lvl LV := ha.is fun e a h => h
 have hMX : kL (fun c => c ≠ S.nx ∧ (S.nx ≤ c ∨ aQ lv = some c)) S X S2.nx S1.nx (mk0 lv lvl dl (pn : Int) most zero) LV := by
  have pbl : ∀ c, c ≠ S2.nx → c ≠ S1.nx → PB S2.nx S1.nx (mk0 lv lvl dl (pn : Int) most zero) c := fun c h1 h2 => ⟨h1, h2, (by intro e; cases e), (by intro e; cases e), (by intro e; cases e)⟩
  exact ⟨⟨lmb, by omega, by omega, by omega, hd, fun c hc => ⟨pbl c (by have := hlow hc; omega) (by have := hlow hc; omega), (by have := hlow hc; omega), .inr hc⟩, hlv, fun c hc => ⟨pbl c (hdj c hc).2.1 (hdj c hc).2.2.1, (hdj c hc).1, .inl (ha.blk hc).1⟩, pY.none, pY.none, pY.none, fun c hc => (by cases hc), fun c hc => (by cases hc), fun c hc => (by cases hc)⟩, gm⟩
 have hM1 := hMX.same x1
 have hgb1 : X1.h.get S.nx = some (.cells [.int .i64 0, .nilsl, .nilsl] false 0) := (x1.2 _ (by omega)).trans gX
 have hseen : rG (fun c => PB S2.nx S1.nx (mk0 lv lvl dl (pn : Int) most zero) c ∧ c ≠ S.nx ∧ (S.nx ≤ c ∨ aQ lv = some c)) X1 (.sl X.nx 0 pn pn false) (List.replicate pn []) := by
  refine ⟨.inr ⟨X.nx, 0, pn, false, List.replicate pn .nilsl, by rw [Ap], by rw [Ap]; exact Af _, by omega, by unfold cP; rw [g1]; rfl, fun i a hi => ?_⟩, fun c hc => by cases hc; exact ⟨hMX.p.fresh (Af _), by omega, .inl (by omega)⟩⟩
  have hlt := (Ai.1 hi).1
  rw [Ap] at hlt
  rw [Ca, if_pos hlt] at hi
  cases hi
  refine ⟨[.nilsl], rfl, fun j x hj => ?_, .nilsl, rfl, .inl ⟨rfl, .inl rfl⟩, fun c hc => by cases hc⟩
  cases j with
  | zero =>
   cases hj
   rw [Am, Ee, Ca, if_pos (by omega)]
  | succ j => simp at hj
 have hb := aDR (S0 := S) (mb := S2.nx) (db := S1.nx) (LV := LV) H (fun p hp => by
  obtain ⟨⟨a1, _⟩, ⟨b1, b2⟩, c1, c2⟩ := hok p hp
  exact ⟨a1, b1, b2, c1, c2⟩) (by omega) LV.length 0 (by omega) X1 (fun c => c ≠ S.nx ∧ (S.nx ≤ c ∨ aQ lv = some c)) (mk0 lv lvl dl (pn : Int) most zero) (.sl X.nx 0 pn pn false) (List.replicate pn []) hM1 (by omega) ⟨⟨rfl, fun j v hv => (by cases hv)⟩, fun j v hv => (by cases hv), fun x hx => (by cases hx), by show (0 : Int) + 1 ≤ most; omega, by show (0 : Int) ≤ 1; omega, by show most ≤ 1000; omega, Af _, hps⟩ (by show (1 : Int) ≤ 1; omega) hseen (by rw [Ap]; rfl) (fun l hl => by rw [List.eq_of_mem_replicate hl]; exact Af _) (fun p hp => (hok p hp).1.2)
 refine aW hb ?_
 rintro _ Y ⟨rfl, m', B, hB, hT, hY, bY⟩
 try simp only [↓sU,sD,rE,↓reduceIte,rA]
 have e0 : m'.nodes = B := by have := hB.nodes; rw [this]; rfl
 have ep : m'.ps = (pn : Int) := hB.ps
 have hfit := hB.fit
 have hpd : m'.pend = 0 := by rw [hB.pend]; rfl
 have hmo : m'.most = most := hB.most
 have hil := hB.il
 have pgb := (bY.2 S.nx (by omega) ⟨by omega, by omega, (by intro e; cases e), (by intro e; cases e), (by intro e; cases e)⟩)
 have gbY := pgb.1.trans hgb1
 have lgm := aKc hY.g
 have nY := bY.1
 refine cF ?_
 simp only [↓sU,sD,rE,↓reduceIte,rA, p9, p8, aS, aR, aA, aB, lgm]
 refine dU (b := S.nx) (cs' := [.int .i64 m'.ps, m'.na, m'.ia]) (by simp only [↓sU,sD,rE,↓reduceIte,rA, p8]) (by simp only [↓sU,sD,rE,↓reduceIte,rA]; exact bK _) gbY rfl rfl ?_
 intro Z z1 z2 z3
 have lag := jF z3
 simp only [↓sU,sD,rE,↓reduceIte,rA]
 refine bD ?_
 simp only [↓sU,sD,rE,↓reduceIte,rA, eZ, p8, lag]
 have hZ : kL (fun c => (c ≠ S.nx ∧ (S.nx ≤ c ∨ aQ lv = some c)) ∨ X1.nx ≤ c) S Z S2.nx S1.nx m' LV := hY.local z1.1 fun c hc hor => z1.2 c hc fun e => by
  rcases hor with h | h | h
  ·exact h (by rw [e]; exact pgb.2)
  ·exact h.1 e
  ·omega
 have sX1 : Same S X1 := sX.trans x1
 have sY : Same S Y := ⟨by omega, fun c hc => ((bY.2 c (by omega) ⟨by omega, by omega, (by intro e; cases e), (by intro e; cases e), (by intro e; cases e)⟩).1).trans (sX1.2 c hc)⟩
 refine ⟨z1.same sY (Af _), ⟨m'.ps, m'.nodes, m'.infos⟩, m'.na, m'.ia, rfl, ep, ?_, ?_, ?_, ⟨⟨LV.length, by omega, by show oW LV.length 0 m'.nodes; rw [e0]; exact hT⟩, by
  show eR (m'.nodes.map tP) m'.infos.length
  rw [e0]
  have := hB.ord [] .nil
  rwa [Bw] at this⟩, hZ.p.nod.is fun e a ⟨xa, xw, xp, h1, h2, h3, h4, _⟩ => ⟨xa, xw, xp, h1, h2, h3, h4⟩, hZ.p.inf.is fun e a h => h, fun X' hn hk => ?_⟩
 rotate_right
 ·have hkp : ∀ c, c < Z.nx → (PB S2.nx S1.nx m' c ∧ ((c ≠ S.nx ∧ (S.nx ≤ c ∨ aQ lv = some c)) ∨ X1.nx ≤ c)) → X'.h.get c = Z.h.get c ∧ True := fun c hc hp => ⟨hk c hc (by
   rcases hp.2 with h | h
   ·exact h.2
   ·exact .inl (by omega)), trivial⟩
  have a1 := hZ.p.nod.move (E' := vN X' fun _ => True) hn (fun c hc => hk c (hZ.p.nod.blk hc).2 (.inl (hZ.p.nod.blk hc).1)) fun e a hE => vN.move hE hn hkp
  have a2 := hZ.p.inf.move (E' := aIb) hn (fun c hc => hk c (hZ.p.inf.blk hc).2 (.inl (hZ.p.inf.blk hc).1)) fun e a hE => hE
  exact ⟨a1.is fun e a ⟨xa, xw, xp, h1, h2, h3, h4, _⟩ => ⟨xa, xw, xp, h1, h2, h3, h4⟩, a2.is fun e a h => h⟩
 rotate_right
 ·intro x hx
  have hx : x ∈ m'.nodes := hx
  rw [e0] at hx
  show gT m'.ps m'.infos x
  rw [ep]
  exact hB.ok x hx
 ·have hBl := hT.1
  refine aEp (k := LV.length) (by show 1 ≤ m'.ps ∧ m'.ps ≤ 4; rw [ep]; exact hps) (by show 1 ≤ m'.nodes.length ∧ m'.nodes.length ≤ 2000; rw [e0] at hfit ⊢; omega) (by show m'.infos.length ≤ 200; omega) (fun x hx => ?_) ?_ (by omega) ?_
  ·have hx : x ∈ m'.nodes := hx
   rw [e0] at hx
   show gT m'.ps m'.infos x
   rw [ep]
   exact hB.ok x hx
  ·show oW LV.length 0 m'.nodes
   rw [e0]
   exact hT
  ·show eR (m'.nodes.map tP) m'.infos.length
   rw [e0]
   have := hB.ord [] .nil
   rwa [Bw] at this
 ·show ((m'.nodes.length : Nat) : Int) ≤ most
  omega
end Go.Ev.Gl
