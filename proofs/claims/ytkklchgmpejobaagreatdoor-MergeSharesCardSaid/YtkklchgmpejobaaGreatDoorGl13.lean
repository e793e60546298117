import Derived.Test.YtkklchgmpejobaaGreatDoorGl12
set_option maxHeartbeats 16000000
set_option linter.unusedSimpArgs false
set_option linter.unusedVariables false
namespace Go.Ev.Gl
variable {fns:T cW}
section
variable {h:Ev.T AB}{b:Nat}{x0 x1:AV}{o:Bool}{s:Nat}
theorem aLW(hb:h.get b=some (.cells [x0,x1] o s)):dB (.ptr b (0+0)) false 1 h=some x0:=ldc hb rfl
theorem aI9(hb:h.get b=some (.cells [x0,x1] o s)):dB (.ptr b (0+1)) false 1 h=some x1:=ldc hb rfl
end
theorem aHy{L:List (List Int)}{i:Nat}(h:i<L.length):L[i]? =some (L.getD i []):=by
 rw[Ag,Ad h];rfl
section
variable {M:Nat}{g:bJ}{pr:Nat→Nat}
end
theorem aLR{l:List Int}{j:Nat}(h:j<l.length):l.getD j 0∈l:=by
 rw[Ag,Ad h];exact Ck h
theorem aOv{t:Nat}{z r:AV}{x:cL}{F:Fr}{id:Nat}{S:St}{l:List Int}(h:bT .i64 S r l)(hx:x.val F=r):tH (.bslice t 1 1 [z] [(0,x)]) F id=some (.sl id 0 1 1 false,.cells [r] false 0):=by
 show(aX (fL (repeatL [z] 1) [(0 * 1,1,x.val F)]) fun cs=>some (AV.sl id 0 1 1 false,AB.cells cs false 0))=_;rw[hx];rcases h with⟨_,rfl | rfl⟩ | ⟨b,off,cap,o,cs,rfl,_⟩<;>rfl
def aI3(S0 X:St)(pv:AV)(cs:List AV)(A:List (List Int)):Prop:=cs.length=A.length∧∀j,j<A.length→∃r,cs[j]? =some r∧bT .i64 X r (A.getD j [])∧∀c,aU r=some c→S0.nx≤c∧aU pv≠some c
theorem aJt{k:IntKind}{X:St}{v:AV}{l:List Int}{c:Nat}(h:bT k X v l)(hc:aU v=some c):c<X.nx:=by
 rcases h with⟨_,rfl | rfl⟩ | ⟨b,off,cap,o,cs,rfl,_,h3,_⟩
 ·cases hc
 ·cases hc
 ·cases hc;exact h3
theorem aI3.push{S0 X Z:St}{pv pv' r:AV}{cs:List AV}{A:List (List Int)}{l:List Int}(h:aI3 S0 X pv cs A)(hX:S0.nx≤X.nx)(hn:X.nx≤Z.nx)(hk:∀c,c<X.nx→S0.nx≤c→aU pv≠some c→Z.h.get c=X.h.get c)(hr:bT .i64 Z r l)(hb:∀c,aU r=some c→X.nx≤c∧aU pv'≠some c)(hp:∀c,aU pv'=some c→X.nx≤c):aI3 S0 Z pv' (cs++ [r]) (A++ [l]):=by
 refine⟨by simp [h.1],fun j hj=>?_⟩;rw[Ai,Am] at hj;rw[aJC];by_cases e:j=A.length
 ·rw[if_pos e,e,←h.1];exact⟨r,by rw[Bb (Af _),Ct];rfl,hr,fun c hc=>⟨Az hX (hb c hc).1,(hb c hc).2⟩⟩
 ·rw[if_neg e];obtain⟨r',h1,h2,h3⟩:=h.2 j (by omega);refine⟨r',by rw[Ba (by rw[h.1];omega)];exact h1,fJ h2 hn fun c hc=>hk c (aJt h2 hc) (h3 c hc).1 (h3 c hc).2,fun c hc=>⟨(h3 c hc).1,fun e=>?_⟩⟩;have:=hp c e;have:=aJt h2 hc;omega
end Go.Ev.Gl
namespace Go.Ev.Gl
section
variable {P:Program}{σ:Env}{S:St}{w:World}
end
end Go.Ev.Gl
