import Derived.Test.YtkklchgmpejobaaGreatDoorGl22
set_option maxHeartbeats 16000000
set_option linter.unusedSimpArgs false
set_option linter.unusedVariables false
namespace Go.Ev.Gl
open Go.Sort
variable {fns:T cW}
end Go.Ev.Gl
namespace Go.Ev.Gl
open Go.Sort
variable {fns:T cW}
def aPa(g m:bC):Prop:=(fH g=0→∃F C,xC g (htL g) F C∧m=aA4 g F C)∧(fH g≠0→m=⟨0,[],[]⟩)
theorem aLI{F:Fr}{h:Ev.T AB}:gT (.build [.int .i64 0,.nilsl,.nilsl] []) F h=some (.agg [.int .i64 0,.nilsl,.nilsl]):=rfl
end Go.Ev.Gl
namespace Go.Ev.Gl
open Go.Sort
variable {fns:T cW}
end Go.Ev.Gl
namespace Go.Ev.Gl
open Go.Sort
variable {fns:T cW}
theorem aJ6{g m:bC}(h:aPa g m):tZ m∧m.nodes.length≤100000:=by
 by_cases he:fH g=0
 ·obtain⟨F,C,hC,rfl⟩:=h.1 he;have G:=xU he;have hN:=G.n2;have hI:=G.ni;refine⟨⟨by show g.infos.length * 16≤_;omega,fun x hx=>?_⟩,?_⟩
  ·obtain⟨q,hq,rfl⟩:=Ee.1 hx;obtain⟨q1,_⟩:=hC.mem hq;have h1:=G.nxt q q1;have h2:=(aAu he q q1).2;have h3:=G.pay q q1;refine⟨?_,?_,?_⟩
   ·show((nodeAt g q).next.map fun c=>C.getD c.toNat 0).length * 8≤_;rw[Ax];omega
   ·show(nodeAt g q).weights.length * 8≤_;omega
   ·show(nodeAt g q).pay.length * 8≤_;omega
  ·show(F.map (tE g C)).length≤100000;have:=hC.perm.length_eq;have h2:=sT g g.nodes.length;unfold nQ at h2;rw[Ax];omega
 ·rw[h.2 he];refine⟨⟨by simp,fun x hx=>by cases hx⟩,by simp⟩
end Go.Ev.Gl
namespace Go.Ev.Gl
open Go.Sort
variable {fns:T cW}
end Go.Ev.Gl
