import Derived.Test.YtiiplmagnlcpbaaGreatDoorGl16
set_option linter.unusedSimpArgs false
set_option linter.unusedVariables false
set_option maxHeartbeats 0
namespace Go.Ev.Gl
section
variable {e:bm}{L:List (bm)}
end
end Go.Ev.Gl
namespace Go.Ev.Gl
end Go.Ev.Gl
namespace Go.Ev.Gl
end Go.Ev.Gl
namespace Go.Ev.Gl
end Go.Ev.Gl
namespace Go.Ev.Gl
structure NZ(r:Nat)(L:List dP):Prop where
 nest:∀ (j q:Nat) (t u:dP),L[j]? =some t->L[q]? =some u->j<=q->((r+q:Nat):Int)<=t.2.2->u.2.2<=t.2.2
 par:∀ (j q:Nat) (t u:dP),L[j]? =some t->L[q]? =some u->u.1=((r+j:Nat):Int)->((r+q:Nat):Int)<=t.2.2
theorem NZ.nil{r:Nat}:NZ r []:=⟨fun j q t u h=>by simp at h,fun j q t u h=>by simp at h⟩
theorem NZ.app{r:Nat}{p:Int}{L M:List dP}(hp:p<(r:Int))(k1:KZ r p L)(k2:KZ (r+L.length) p M)(h1:NZ r L)(h2:NZ (r+L.length) M):NZ r (L++M):=by
 refine⟨fun j q t u hj hq hle hr=>?_,fun j q t u hj hq he=>?_⟩
 ·by_cases a:j<L.length
  ·rw[Ap a] at hj;have hs:=(k1.sz j t hj).2;rw[Ap au] at hq;exact h1.nest j q t u hj hq hle hr
  ·rw[Aq au] at hj hq;exact h2.nest _ _ t u hj hq au (by rw[show r+L.length+(q - L.length)=r+q by omega];exact hr)
 ·by_cases a:j<L.length
  ·rw[Ap a] at hj;by_cases b:q<L.length
   ·rw[Ap b] at hq;exact h1.par j q t u hj hq he
   ·rw[Aq au] at hq;rcases k2.par u (Cm hq) with e | e
    ·omega
    ·omega
  ·by_cases b:q<L.length
   ·rw[Ap b] at hq;rcases k1.par u (Cm hq) with e | e
    ·omega
    ·omega
   ·rw[Aq au] at hj hq;have:=h2.par _ _ t u hj hq (by rw[show r+L.length+(j - L.length)=r+j by omega];exact he)
    rwa [show r+L.length+(q - L.length)=r+q by omega] at this
theorem aKV{rec:Nat->Option (List dP)}{p:Int}(hr:∀ (r:Nat) (L:List dP),p<(r:Int)->rec r=some L->KZ r p L/\NZ r L):∀ {l:bm} {r:Nat} {L:List dP},p<(r:Int)->gS rec l r=some L->NZ r L
 | [],r,L,_,h=>by
  have h:some []=some L:=h;cases h;exact NZ.nil
 | c::l,r,L,hp,h=>by
  simp only[gS] at h;split at h
  ·have⟨L1,h1,h2⟩:=Du.1 h;obtain⟨L2,h3,rfl⟩:=Ax.1 h2;have k2:=aCP (fun r L a b=>(hr r L a b).1) (show p<((r+L1.length:Nat):Int) by omega) h3;exact NZ.app hp (hr r L1 hp h1).1 k2 (hr r L1 hp h1).2 (aKV hr au h3)
  ·cases h
theorem aKT{N:Nat}{nx:Nat->bm}:∀ {f at_:Nat} {p d:Int} {T:List dP},p<(at_:Int)->iL N nx f at_ p d=some T->NZ at_ T
 | 0,_,_,_,_,_,h=>by cases h
 | f+1,at_,p,d,T,hp,h=>by
  have K:=vV hp h;simp only[iL] at h;split at h
  ·obtain⟨L,h1,rfl⟩:=Ax.1 h;have k:=aCP (p:=(at_:Int)) (fun r L hr hL=>vV hr hL) au h1;have n:=aKV (p:=(at_:Int)) (fun r L hr hL=>⟨vV hr hL,aKT hr hL⟩) au h1;refine⟨fun j q t u hj hq hle hr=>?_,fun j q t u hj hq he=>?_⟩
   ·cases j with
    | zero=>
     cases hj;have:=(K.sz q u hq).2;rw[Av] at this;show u.2.2<=((at_+L.length:Nat):Int);omega
    | succ j=>
     obtain⟨q,rfl⟩:∃q',q=q'+1:=⟨q - 1,au⟩;exact n.nest j q t u hj hq au (by rw[show at_+1+q=at_+(q+1) by omega];exact hr)
   ·cases j with
    | zero=>
     cases hj;have:=(Ai.1 hq).1;rw[Av] at this;show((at_+q:Nat):Int)<=((at_+L.length:Nat):Int);omega
    | succ j=>
     cases q with
     | zero=>
      cases hq;have he:p=((at_+(j+1):Nat):Int):=he;omega
     | succ q=>
      have:=n.par j q t u hj hq (by rw[show at_+1+j=at_+(j+1) by omega];exact he)
      rwa [show at_+1+q=at_+(q+1) by omega] at this
  ·cases h
theorem aPr{g:bD}{T:List dP}(hT:pQ g=some T)(hl:T.length=g.bw.length){a i:Nat}(ha:a<g.bw.length)(hi:a<=i/\i<a+pZ T a)(hin:i<g.bw.length){c:Int}(hc:c∈(cj g i).next):(i:Int)<c/\c<((a+pZ T a:Nat):Int):=by
 have hw:iL g.bw.length (iB g) (g.bw.length+1) 0 (-1) 0=some T:=hT;have K:=vV ay hw;have n:=aKT ay hw;have hf:=rM hw;have hnx:iB g (0+i)=(cj g i).next:=by rw[Ao];exact kR g i
 have⟨c1,c2,c3⟩:=hf.cf i au c (by rw[hnx];exact hc);have last:∀j (hj:j<T.length),T[j].2.2=((j+pZ T j - 1:Nat):Int)/\1<=pZ T j:=fun j hj=>by
  have h1:=K.sz j T[j] (Ad hj);have h2:=aCR K hj;rw[Ao] at h1;omega
 have hcl:c.toNat<T.length:=by omega
 have hpar:T[c.toNat].1=((0+i:Nat):Int):=by
  unfold oO at c3;rw[Gu,Ad hcl] at c3;exact Cd c3
 have hil:i<T.length:=by omega
 have hal:a<T.length:=by omega
 have e1:=n.par i c.toNat _ _ (Ad hil) (Ad hcl) hpar;have e2:=n.nest a i _ _ (Ad hal) (Ad hil) hi.1 (by rw[(last a hal).1];omega);rw[(last i hil).1] at e1 e2;rw[(last a hal).1] at e2;have:=(last a hal).2;have:=(last i hil).2;omega
end Go.Ev.Gl
