import Derived.Test.YtkklchgmpejobaaGreatDoorGl12
set_option maxHeartbeats 16000000
set_option linter.unusedSimpArgs false
set_option linter.unusedVariables false
namespace Go.Ev.Gl
variable {fns:T cV}
section
variable {h:Ev.T AB}{b:Nat}{x0 x1:AV}{o:Bool}{s:Nat}
theorem aMb(hb:h.get b=some (.cells [x0,x1] o s)):dB (.ptr b (0+0)) false 1 h=some x0:=ldc hb rfl
theorem aJq(hb:h.get b=some (.cells [x0,x1] o s)):dB (.ptr b (0+1)) false 1 h=some x1:=ldc hb rfl
end
theorem aHs{L:List (List Int)}{i:Nat}(h:i<L.length):L[i]? =some (L.getD i []):=by
 rw[Ae,Ab h];rfl
section
variable {M:Nat}{g:bH}{pr:Nat→Nat}
end
theorem aM7{l:List Int}{j:Nat}(h:j<l.length):l.getD j 0∈l:=by
 rw[Ae,Ab h];exact Br h
theorem aOL{t:Nat}{z r:AV}{x:cK}{F:Fr}{id:Nat}{S:St}{l:List Int}(h:cD .i64 S r l)(hx:x.val F=r):tQ (.bslice t 1 1 [z] [(0,x)]) F id=some (.sl id 0 1 1 false,.cells [r] false 0):=by
 show(aX (fG (repeatL [z] 1) [(0 * 1,1,x.val F)]) fun cs=>some (AV.sl id 0 1 1 false,AB.cells cs false 0))=_;rw[hx];rcases h with⟨_,rfl | rfl⟩ | ⟨b,off,cap,o,cs,rfl,_⟩<;>rfl
def aJp(S0 X:St)(pv:AV)(cs:List AV)(A:List (List Int)):Prop:=cs.length=A.length∧∀j,j<A.length→∃r,cs[j]? =some r∧cD .i64 X r (A.getD j [])∧∀c,aT r=some c→S0.nx≤c∧aT pv≠some c
theorem aIK{k:IntKind}{X:St}{v:AV}{l:List Int}{c:Nat}(h:cD k X v l)(hc:aT v=some c):c<X.nx:=by
 rcases h with⟨_,rfl | rfl⟩ | ⟨b,off,cap,o,cs,rfl,_,h3,_⟩
 ·cases hc
 ·cases hc
 ·cases hc;exact h3
theorem aJp.push{S0 X Z:St}{pv pv' r:AV}{cs:List AV}{A:List (List Int)}{l:List Int}(h:aJp S0 X pv cs A)(hX:S0.nx≤X.nx)(hn:X.nx≤Z.nx)(hk:∀c,c<X.nx→S0.nx≤c→aT pv≠some c→Z.h.get c=X.h.get c)(hr:cD .i64 Z r l)(hb:∀c,aT r=some c→X.nx≤c∧aT pv'≠some c)(hp:∀c,aT pv'=some c→X.nx≤c):aJp S0 Z pv' (cs++ [r]) (A++ [l]):=by
 refine⟨by simp [h.1],fun j hj=>?_⟩;rw[Ai,An] at hj;rw[aJE];by_cases e:j=A.length
 ·rw[if_pos e,e,←h.1];exact⟨r,by rw[Aw (Ag _),Cu];rfl,hr,fun c hc=>⟨Ap hX (hb c hc).1,(hb c hc).2⟩⟩
 ·rw[if_neg e];obtain⟨r',h1,h2,h3⟩:=h.2 j (by omega);refine⟨r',by rw[Av (by rw[h.1];omega)];exact h1,eY h2 hn fun c hc=>hk c (aIK h2 hc) (h3 c hc).1 (h3 c hc).2,fun c hc=>⟨(h3 c hc).1,fun e=>?_⟩⟩;have:=hp c e;have:=aIK h2 hc;omega
end Go.Ev.Gl
namespace Go.Ev.Gl
section
variable {P:Program}{σ:Env}{S:St}{w:World}
end
end Go.Ev.Gl
