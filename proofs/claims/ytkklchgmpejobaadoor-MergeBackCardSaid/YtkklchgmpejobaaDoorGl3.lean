import Derived.Test.YtkklchgmpejobaaDoorGl2
set_option maxHeartbeats 16000000
set_option linter.unusedSimpArgs false
set_option linter.unusedVariables false
namespace Go.Ev.Gl
variable {fns:T dB}
section
variable {W:Nat→Prop}{h0:T AB}{base:Nat}{d:Option Nat}{m i:Nat}{l:List AO}{F:Fr}{S:St}{last:Option Nat}{Q:Fr→St→List iD→Prop}
theorem dS{j id:Nat}{bl:AB}{h:T AB}(ht:Nat.testBit m j=true):cG m [⟨j,id,bl⟩] h=([],h.set id (some bl)):=by
 unfold cG;rw[show Nat.testBit m (iD.mk j id bl).i=true from ht,aL];rfl
theorem aCv{f:cK}{args:List cK}{j id:Nat}{bl:AB}(ht:Nat.testBit m j=true)(h:lP last m=true)(hw:∀S2,bH id S S2→S2.nx=S.nx→S2.h.get id=some bl→fP fns (f.val F) (dC args F) S2 fun v S1=>Same S2 S1∧fW fns W h0 base l (i+1) (cI d F v) S1 [] (some i) Q):fW fns W h0 base (⟨d,.x (.call f args),none,m⟩::l) i F S [⟨j,id,bl⟩] last Q:=by
 refine aAH h ?_;rw[dS ht];exact hw ⟨S.h.set id (some bl),S.nx⟩ ((bH.refl id S).put _) rfl (by simp only;rw[T.get_set,if_pos rfl])
end
theorem gF{d m:Nat}{a:vE}{l:List AO}{F:Fr}{S:St}{Q:Fr→St→Prop}{v:AV}{bl:AB}(he:tE a F S.nx=some (v,bl))(h:∀S1,Same S S1→S1.nx=S.nx+1→S1.h.get S.nx=some bl→uG fns l (cI (some d) F v) S1 Q):uG fns (⟨some d,.a a,none,m⟩::l) F S Q:=by
 rw[aA9];refine⟨(v,bl),he,h _ (Same.alloc S _) rfl ?_⟩;simp only;rw[T.get_set,if_pos rfl]
theorem qE(W:Nat→Prop){ops:List AO}{A:bR}{S:St}{Q:Out→bR→St→Prop}(h:∀S1,Same S S1→S1.h=S.h→S1.nx=S.nx+ops.length→fW fns W S.h S.nx ops 0 A.F S1 [] none fun F S' ps=>Q .normal ⟨F,A.inr⟩ ⟨(cG (2 ^ ops.length - 1) ps S'.h).2,S'.nx⟩):mA fns (.drw ops) A S Q:=aIh W (h _ (Same.nx S _) rfl rfl)
end Go.Ev.Gl
