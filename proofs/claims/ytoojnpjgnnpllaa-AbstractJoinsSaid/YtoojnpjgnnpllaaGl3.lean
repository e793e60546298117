import Derived.Test.YtoojnpjgnnpllaaGl2
set_option maxHeartbeats 16000000
set_option linter.unusedSimpArgs false
set_option linter.unusedVariables false
namespace Go.Ev.Gl
variable {fns:T eG}
section
variable {W:Nat→Prop}{h0:T AB}{base:Nat}{d:Option Nat}{m i:Nat}{l:List AO}{F:Fr}{S:St}{last:Option Nat}{Q:Fr→St→List iJ→Prop}
theorem dF{j id:Nat}{bl:AB}{h:T AB}(ht:Nat.testBit m j=true):cF m [⟨j,id,bl⟩] h=([],h.set id (some bl)):=by
 unfold cF;rw[show Nat.testBit m (iJ.mk j id bl).i=true from ht,aQ];rfl
theorem aCF{f:cL}{args:List cL}{j id:Nat}{bl:AB}(ht:Nat.testBit m j=true)(h:kQ last m=true)(hw:∀S2,bS id S S2→S2.nx=S.nx→S2.h.get id=some bl→gH fns (f.val F) (dD args F) S2 fun v S1=>Same S2 S1∧fK fns W h0 base l (i+1) (cK d F v) S1 [] (some i) Q):fK fns W h0 base (⟨d,.x (.call f args),none,m⟩::l) i F S [⟨j,id,bl⟩] last Q:=by
 refine aEs h ?_;rw[dF ht];exact hw ⟨S.h.set id (some bl),S.nx⟩ ((bS.refl id S).put _) rfl (by simp only;rw[T.get_set,if_pos rfl])
end
theorem gM{d m:Nat}{a:uS}{l:List AO}{F:Fr}{S:St}{Q:Fr→St→Prop}{v:AV}{bl:AB}(he:uL a F S.nx=some (v,bl))(h:∀S1,Same S S1→S1.nx=S.nx+1→S1.h.get S.nx=some bl→tX fns l (cK (some d) F v) S1 Q):tX fns (⟨some d,.a a,none,m⟩::l) F S Q:=by
 rw[aAK];refine⟨(v,bl),he,h _ (Same.alloc S _) rfl ?_⟩;simp only;rw[T.get_set,if_pos rfl]
theorem sL(W:Nat→Prop){ops:List AO}{A:bH}{S:St}{Q:Out→bH→St→Prop}(h:∀S1,Same S S1→S1.h=S.h→S1.nx=S.nx+ops.length→fK fns W S.h S.nx ops 0 A.F S1 [] none fun F S' ps=>Q .normal ⟨F,A.inr⟩ ⟨(cF (2 ^ ops.length - 1) ps S'.h).2,S'.nx⟩):iH fns (.drw ops) A S Q:=jN W (h _ (Same.nx S _) rfl rfl)
end Go.Ev.Gl
