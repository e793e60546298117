import Derived.Test.YtkklchgmpejobaaGreatDoorGl2
set_option maxHeartbeats 16000000
set_option linter.unusedSimpArgs false
set_option linter.unusedVariables false
namespace Go.Ev.Gl
variable {fns:T cV}
section
variable {W:Nat→Prop}{h0:T AB}{base:Nat}{d:Option Nat}{m i:Nat}{l:List AO}{F:Fr}{S:St}{last:Option Nat}{Q:Fr→St→List iM→Prop}
theorem dS{j id:Nat}{bl:AB}{h:T AB}(ht:Nat.testBit m j=true):cG m [⟨j,id,bl⟩] h=([],h.set id (some bl)):=by
 unfold cG;rw[show Nat.testBit m (iM.mk j id bl).i=true from ht,aL];rfl
theorem aDT{f:cK}{args:List cK}{j id:Nat}{bl:AB}(ht:Nat.testBit m j=true)(h:mC last m=true)(hw:∀S2,bJ id S S2→S2.nx=S.nx→S2.h.get id=some bl→fR fns (f.val F) (cW args F) S2 fun v S1=>Same S2 S1∧gG fns W h0 base l (i+1) (cI d F v) S1 [] (some i) Q):gG fns W h0 base (⟨d,.x (.call f args),none,m⟩::l) i F S [⟨j,id,bl⟩] last Q:=by
 refine aBj h ?_;rw[dS ht];exact hw ⟨S.h.set id (some bl),S.nx⟩ ((bJ.refl id S).put _) rfl (by simp only;rw[T.get_set,if_pos rfl])
end
theorem fX{d m:Nat}{a:wU}{l:List AO}{F:Fr}{S:St}{Q:Fr→St→Prop}{v:AV}{bl:AB}(he:tQ a F S.nx=some (v,bl))(h:∀S1,Same S S1→S1.nx=S.nx+1→S1.h.get S.nx=some bl→tW fns l (cI (some d) F v) S1 Q):tW fns (⟨some d,.a a,none,m⟩::l) F S Q:=by
 rw[aAX];refine⟨(v,bl),he,h _ (Same.alloc S _) rfl ?_⟩;simp only;rw[T.get_set,if_pos rfl]
theorem qE(W:Nat→Prop){ops:List AO}{A:bQ}{S:St}{Q:Out→bQ→St→Prop}(h:∀S1,Same S S1→S1.h=S.h→S1.nx=S.nx+ops.length→gG fns W S.h S.nx ops 0 A.F S1 [] none fun F S' ps=>Q .normal ⟨F,A.inr⟩ ⟨(cG (2 ^ ops.length - 1) ps S'.h).2,S'.nx⟩):lJ fns (.drw ops) A S Q:=aJa W (h _ (Same.nx S _) rfl rfl)
theorem aKK{S S':St}(h1:S'.h=S.h)(h2:S.nx≤S'.nx):Same S S':=⟨h2,fun _ _=>by rw[h1]⟩
end Go.Ev.Gl
