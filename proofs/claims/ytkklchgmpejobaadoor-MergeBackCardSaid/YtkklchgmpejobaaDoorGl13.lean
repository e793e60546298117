import Derived.Test.YtkklchgmpejobaaDoorGl12
set_option maxHeartbeats 16000000
set_option linter.unusedSimpArgs false
set_option linter.unusedVariables false
namespace Go.Ev.Gl
variable {fns:T dB}
section
variable {h:Ev.T AB}{b:Nat}{x0 x1:AV}{o:Bool}{s:Nat}
theorem aLT(hb:h.get b=some (.cells [x0,x1] o s)):cW (.ptr b (0+0)) false 1 h=some x0:=ldc hb rfl
theorem aIv(hb:h.get b=some (.cells [x0,x1] o s)):cW (.ptr b (0+1)) false 1 h=some x1:=ldc hb rfl
end
theorem aGh{L:List (List Int)}{i:Nat}(h:i<L.length):L[i]? =some (L.getD i []):=by
 rw[Ah,Ad h];rfl
section
variable {M:Nat}{g:bM}{pr:Nat→Nat}
end
theorem aLw{l:List Int}{j:Nat}(h:j<l.length):l.getD j 0∈l:=by
 rw[Ah,Ad h];exact Ci h
theorem aNc{t:Nat}{z r:AV}{x:cK}{F:Fr}{id:Nat}{S:St}{l:List Int}(h:cE .i64 S r l)(hx:x.val F=r):tE (.bslice t 1 1 [z] [(0,x)]) F id=some (.sl id 0 1 1 false,.cells [r] false 0):=by
 show(aW (fI (repeatL [z] 1) [(0 * 1,1,x.val F)]) fun cs=>some (AV.sl id 0 1 1 false,AB.cells cs false 0))=_;rw[hx];rcases h with⟨_,rfl | rfl⟩ | ⟨b,off,cap,o,cs,rfl,_⟩<;>rfl
def aIw(S0 X:St)(pv:AV)(cs:List AV)(A:List (List Int)):Prop:=cs.length=A.length∧∀j,j<A.length→∃r,cs[j]? =some r∧cE .i64 X r (A.getD j [])∧∀c,aS r=some c→S0.nx≤c∧aS pv≠some c
theorem aIH{k:IntKind}{X:St}{v:AV}{l:List Int}{c:Nat}(h:cE k X v l)(hc:aS v=some c):c<X.nx:=by
 rcases h with⟨_,rfl | rfl⟩ | ⟨b,off,cap,o,cs,rfl,_,h3,_⟩
 ·cases hc
 ·cases hc
 ·cases hc;exact h3
theorem aIw.push{S0 X Z:St}{pv pv' r:AV}{cs:List AV}{A:List (List Int)}{l:List Int}(h:aIw S0 X pv cs A)(hX:S0.nx≤X.nx)(hn:X.nx≤Z.nx)(hk:∀c,c<X.nx→S0.nx≤c→aS pv≠some c→Z.h.get c=X.h.get c)(hr:cE .i64 Z r l)(hb:∀c,aS r=some c→X.nx≤c∧aS pv'≠some c)(hp:∀c,aS pv'=some c→X.nx≤c):aIw S0 Z pv' (cs++ [r]) (A++ [l]):=by
 refine⟨by simp [h.1],fun j hj=>?_⟩;rw[Ai,Am] at hj;rw[aJ9];by_cases e:j=A.length
 ·rw[if_pos e,e,←h.1];exact⟨r,by rw[Az (Ag _),Cp];rfl,hr,fun c hc=>⟨Bb hX (hb c hc).1,(hb c hc).2⟩⟩
 ·rw[if_neg e];obtain⟨r',h1,h2,h3⟩:=h.2 j (by omega);refine⟨r',by rw[Ay (by rw[h.1];omega)];exact h1,fG h2 hn fun c hc=>hk c (aIH h2 hc) (h3 c hc).1 (h3 c hc).2,fun c hc=>⟨(h3 c hc).1,fun e=>?_⟩⟩;have:=hp c e;have:=aIH h2 hc;omega
end Go.Ev.Gl
namespace Go.Ev.Gl
section
variable {P:Program}{σ:Env}{S:St}{w:World}
end
end Go.Ev.Gl
