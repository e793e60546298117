import Derived.Test.YtiiplmagnlcpbaaGreatDoorGl8
set_option linter.unusedSimpArgs false
set_option linter.unusedVariables false
set_option maxHeartbeats 0
namespace Go.Ev.Gl
variable {fns:T cM}
def cj(g:aZ)(i:Nat):fO:=g.bw.getD i ⟨0,0,0,[],[],[]⟩
def aAH(g:aZ)(s:Nat):Nat:=mA g.bw 0 s - 1
theorem aI1{g:aZ}{i:Nat}{x:fO}(h:g.bw[i]? =some x):cj g i=x:=by unfold cj;rw[Ae,h];rfl
theorem gJ{g:aZ}{i:Nat}(h:i<g.bw.length):g.bw[i]? =some (cj g i):=by unfold cj;rw[Ae,Ad h];rfl
theorem kB(g:aZ)(i:Nat):fJ g i=(cj g i).next:=by
 unfold fJ cj;rw[Ae];cases g.bw[i]? <;>rfl
theorem aEQ{i:Nat}:∀ {l:List fO} {s:Nat},mA l s i≠0->∃j x,l[j]? =some x/\mA l s i=s+j+1/\x.kind=2/\x.info=(i:Int)
 | [],s,h=>absurd rfl h
 | x::l,s,h=>by
  simp only[mA] at h ⊢;by_cases hx:x.kind=2/\x.info=(i:Int)
  ·rw[if_pos hx];exact⟨0,x,rfl,rfl,hx.1,hx.2⟩
  ·rw[if_neg hx] at h ⊢;have⟨j,y,h1,h2,h3,h4⟩:=aEQ h;exact⟨j+1,y,by rw[Ft];exact h1,by rw[h2];omega,h3,h4⟩
theorem aLE{ps:Int}{ni:Nat}{x:fO}(h:iZ ps ni x=0)(hp:ps<=4):x.pay.length<=4:=by
 unfold iZ at h;split at h
 ·split at h
  ·cases h
  ·rename_i hb;unfold mZ at hb;omega
 ·split at h
  ·split at h
   ·cases h
   ·rename_i hb;unfold xY at hb;omega
  ·split at h
   ·split at h
    ·cases h
    ·rename_i hb;unfold oI at hb;omega
   ·cases h
structure kI(g:aZ):Prop where
 n1:0<g.bw.length
 n2:g.bw.length<=2000
 ni:g.b7.length<=200
 nxt:∀i,i<g.bw.length->(cj g i).next.length<=1000
 pay:∀i,i<g.bw.length->(cj g i).pay.length<=4
 wts:∀i,i<g.bw.length->(cj g i).kind=1->(cj g i).weights.length=(cj g i).next.length
 inf:∀i,i<g.bw.length->(cj g i).kind=2->0<=(cj g i).info/\(cj g i).info<g.b7.length/\(cm g (cj g i).info).b9=(((cj g i).next.length:Nat):Int)
 fst:∀s,s<g.b7.length->aAH g s<g.bw.length/\(cj g (aAH g s)).kind=2/\(cj g (aAH g s)).info=(s:Int)
 walk:∃T,lL g=some T/\T.length=g.bw.length/\WF (fJ g) 0 (-1) T
theorem aJn{g:aZ}(h:dJ g=0):kI g:=by
 unfold dJ at h;split at h
 ·cases h
 rename_i hb;split at h
 ·rename_i h1;exact absurd h h1
 rename_i hN;have hN:=Ha.1 hN;cases hW:lL g with
 | none=>rw[hW] at h;cases h
 | some T=>
  rw[hW] at h;simp only at h;split at h
  ·cases h
  rename_i hT;split at h
  ·cases h
  unfold aA0 at h;split at h
  ·cases h
  rename_i hmis;split at h
  ·cases h
  rename_i hfst;unfold mG at hb;have hmem:∀i,i<g.bw.length->cj g i∈g.bw:=fun i hi=>Cg (gJ hi);refine⟨au,au,au,fun i hi=>aBG (jR hN _ (hmem i hi)),fun i hi=>aLE (jR hN _ (hmem i hi)) au,fun i hi hk=>?_,fun i hi hk=>?_,fun s hs=>?_,T,hW,au,?_⟩
  ·have:=jR hN _ (hmem i hi);unfold iZ at this;rw[if_pos hk] at this;split at this
   ·cases this
   ·rename_i hc;unfold mZ at hc;omega
  ·have⟨a,b⟩:=aBy (jR hN _ (hmem i hi)) hk;refine⟨a,b,Decidable.byContradiction fun hne=>hmis ⟨_,hmem i hi,hk,fun hh=>hne hh.2⟩⟩
  ·have hne:mA g.bw 0 s≠0:=fun e=>hfst (by
    unfold gN;exact Ga.2 ⟨s,List.mem_range.2 hs,by rw[e];rfl⟩)
   have⟨j,x,h1,h2,h3,h4⟩:=aEQ hne;have e:aAH g s=j:=by unfold aAH;omega
   rw[e,aI1 h1];exact⟨(Aj.1 h1).1,h3,h4⟩
  ·unfold lL at hW;exact qC hW
section
variable {g:aZ}{m:bm}{V V':Nat->Prop}{W W':Nat->Nat->Prop}{I F:bm}{A:List (bm)}
theorem aBx{l:bm}{n j:Nat}{x:Int}(hn:n<l.length):(l.set n x).getD j 0=if n=j then x else l.getD j 0:=by
 rw[Ae,List.getElem?_set];split
 ·rfl
 ·rw[Ae]
end
section
variable {S0 X X':St}{bs:Nat->Nat}{cs:bo}{A:List (bm)}
end
theorem aF8{h:Ev.T AB}{b p sz:Nat}{l:bm}{o:Bool}(hb:h.get b=some (.cells (bC l) o sz))(hp:p<l.length):cT (.ptr b p) false 1 h=some (.int .i64 (l.getD p 0)):=aB4 hb (by
 unfold bC;rw[Bk,Ad hp,Ae,Ad hp];rfl)
theorem aM8{k:IntKind}{x:Int}(h:0<=x):dY (.int k x)=some x.toNat:=by
 obtain⟨n,rfl⟩:∃n:Nat,x=(n:Int):=⟨x.toNat,au⟩;rw[Bq];exact aQ ..
theorem aL1{x0 x1 x2:Int}{a b c:AV}{k:IntKind}(ha:cC a a=true)(hb:cC b b=true)(hc:cC c c=true):cC (.agg [.int k x0,.int k x1,.int k x2,a,b,c]) (.agg [.int k x0,.int k x1,.int k x2,a,b,c])=true:=aBg (fS ..) (fS ..) (fS ..) ha hb hc
section
variable {g:aZ}{m:bm}{I F:bm}{A:List (bm)}{n e:Nat}
theorem kI.kids(G:kI g):∀j,j<g.bw.length->∀k,k<(cj g j).next.length->(j:Int)<(cj g j).next.getD k 0/\(cj g j).next.getD k 0<g.bw.length:=fun j hj k hk=>by
 have⟨T,_,hTl,hW⟩:=G.walk;have hm:(cj g j).next.getD k 0∈(cj g j).next:=by rw[Ae,Ad hk];exact Ec _
 have:=hW.cf j au _ (by rw[Au,kB];exact hm);omega
theorem kI.only(G:kI g){j k j' k':Nat}(hj:j<g.bw.length)(hk:k<(cj g j).next.length)(hj':j'<g.bw.length)(hk':k'<(cj g j').next.length)(e:(cj g j).next.getD k 0=(cj g j').next.getD k' 0):j=j'/\k=k':=by
 have⟨T,_,hTl,hW⟩:=G.walk;have mem:∀ {j k:Nat},k<(cj g j).next.length->(cj g j).next.getD k 0∈(cj g j).next:=fun {j k} hk=>by rw[Ae,Ad hk];exact Ec _
 have h1:=(hW.cf j au _ (by rw[Au,kB];exact mem hk)).2.2;have h2:=(hW.cf j' au _ (by rw[Au,kB];exact mem hk')).2.2;rw[e,h2] at h1;have hjj:j=j':=by have:=Bz h1;omega
 subst hjj;have hinc:=hW.inc j au;rw[Au,kB] at hinc;refine⟨rfl,?_⟩;rw[Ae,Ae,Ad hk,Ad hk'] at e;have e:(cj g j).next[k]=(cj g j).next[k']:=e;rcases Gn k k' with h | h | h
 ·have:=Fb.1 hinc k k' hk hk' h;omega
 ·exact h
 ·have:=Fb.1 hinc k' k hk' hk h;omega
end
end Go.Ev.Gl
