import Derived.Test.YtkklchgmpejobaaGreatDoorGl8
set_option maxHeartbeats 16000000
set_option linter.unusedSimpArgs false
set_option linter.unusedVariables false
namespace Go.Ev.Gl
variable {fns:T cV}
def nodeAt(g:bH)(i:Nat):bU:=g.nodes.getD i ⟨0,0,0,[],[],[]⟩
def pE(g:bH)(s:Nat):Nat:=mO g.nodes 0 s - 1
theorem nO{g:bH}{i:Nat}{x:bU}(h:g.nodes[i]? =some x):nodeAt g i=x:=by unfold nodeAt;rw[Ae,h];rfl
theorem dI{g:bH}{i:Nat}(h:i<g.nodes.length):g.nodes[i]? =some (nodeAt g i):=by unfold nodeAt;rw[Ae,Ab h];rfl
theorem pM(g:bH)(i:Nat):iU g i=(nodeAt g i).next:=by
 unfold iU nodeAt;rw[Ae];cases g.nodes[i]? <;>rfl
theorem aEm{i:Nat}:∀ {l:List bU} {s:Nat},mO l s i≠0→∃j x,l[j]? =some x∧mO l s i=s+j+1∧x.kind=2∧x.info=(i:Int)
 | [],s,h=>absurd rfl h
 | x::l,s,h=>by
  simp only[mO] at h ⊢;by_cases hx:x.kind=2∧x.info=(i:Int)
  ·rw[if_pos hx];exact⟨0,x,rfl,rfl,hx.1,hx.2⟩
  ·rw[if_neg hx] at h ⊢;obtain⟨j,y,h1,h2,h3,h4⟩:=aEm h;exact⟨j+1,y,by rw[List.getElem?_cons_succ];exact h1,by rw[h2];omega,h3,h4⟩
theorem aMe{ps:Int}{ni:Nat}{x:bU}(h:iV ps ni x=0)(hp:ps≤4):x.pay.length≤4:=by
 unfold iV at h;split at h
 ·split at h
  ·cases h
  ·rename_i hb;unfold tH at hb;omega
 ·split at h
  ·split at h
   ·cases h
   ·rename_i hb;unfold xY at hb;omega
  ·split at h
   ·split at h
    ·cases h
    ·rename_i hb;unfold uU at hb;omega
   ·cases h
structure qP(g:bH):Prop where
 n1:0<g.nodes.length
 n2:g.nodes.length≤2000
 ni:g.infos.length≤200
 nxt:∀i,i<g.nodes.length→(nodeAt g i).next.length≤1000
 pay:∀i,i<g.nodes.length→(nodeAt g i).pay.length≤4
 wts:∀i,i<g.nodes.length→(nodeAt g i).kind=1→(nodeAt g i).weights.length=(nodeAt g i).next.length
 inf:∀i,i<g.nodes.length→(nodeAt g i).kind=2→0≤(nodeAt g i).info∧(nodeAt g i).info<g.infos.length∧(infoAt g (nodeAt g i).info).actions=(((nodeAt g i).next.length:Nat):Int)
 fst:∀s,s<g.infos.length→pE g s<g.nodes.length∧(nodeAt g (pE g s)).kind=2∧(nodeAt g (pE g s)).info=(s:Int)
 walk:∃T,lN g=some T∧T.length=g.nodes.length∧WF (iU g) 0 (-1) T
theorem uF{g:bH}(h:iH g=0):qP g:=by
 unfold iH at h;split at h
 ·cases h
 rename_i hb;split at h
 ·rename_i h1;exact absurd h h1
 rename_i hN;have hN:=Decidable.not_not.1 hN;cases hW:lN g with
 | none=>rw[hW] at h;cases h
 | some T=>
  rw[hW] at h;simp only at h;split at h
  ·cases h
  rename_i hT;split at h
  ·cases h
  unfold aBK at h;split at h
  ·cases h
  rename_i hmis;split at h
  ·cases h
  rename_i hfst;unfold tZ at hb;have hmem:∀i,i<g.nodes.length→nodeAt g i∈g.nodes:=fun i hi=>Aq (dI hi);refine⟨by omega,by omega,by omega,fun i hi=>aEr (kG hN _ (hmem i hi)),fun i hi=>aMe (kG hN _ (hmem i hi)) (by omega),fun i hi hk=>?_,fun i hi hk=>?_,fun s hs=>?_,T,hW,by omega,?_⟩
  ·have:=kG hN _ (hmem i hi);unfold iV at this;rw[if_pos hk] at this;split at this
   ·cases this
   ·rename_i hc;unfold tH at hc;omega
  ·obtain⟨a,b⟩:=aEQ (kG hN _ (hmem i hi)) hk;refine⟨a,b,Decidable.byContradiction fun hne=>hmis ⟨_,hmem i hi,hk,fun hh=>hne hh.2⟩⟩
  ·have hne:mO g.nodes 0 s≠0:=fun e=>hfst (by
    unfold lA;exact Dz.2 ⟨s,Fz.2 hs,by rw[e];rfl⟩)
   obtain⟨j,x,h1,h2,h3,h4⟩:=aEm hne;have e:pE g s=j:=by unfold pE;omega
   rw[e,nO h1];exact⟨(Af.1 h1).1,h3,h4⟩
  ·unfold lN at hW;exact yZ hW
section
variable {g:bH}{m:List Int}{V V':Nat→Prop}{W W':Nat→Nat→Prop}{I F:List Int}{A:List (List Int)}
end
section
variable {S0 X X':St}{bs:Nat→Nat}{cs:List AV}{A:List (List Int)}
theorem aJE{l:List (List Int)}{x:List Int}{j:Nat}:(l++ [x]).getD j []=if j=l.length then x else l.getD j []:=by
 rw[Ae,Ae];by_cases h:j<l.length
 ·rw[Av h,if_neg (by omega)]
 ·rw[Aw (by omega)];by_cases e:j=l.length
  ·rw[if_pos e,e,Cu];rfl
  ·rw[if_neg e,Bn (by simp;omega),Bn (by omega)]
end
theorem gQ.push1{bytes t n:Nat}{S0 S:St}{v x:AV}{cs:List AV}(h:gQ 1 S0 S v n cs)(hS:Same S0 S)(ht:S.h.get t=some (.cells [x] false 0))(h1:n+1≤room)(h2:(n+1) * bytes≤room):
  ∃v' S',iA bytes 1 v (.sl t 0 1 1 false) S=some (v',S')∧gQ 1 S0 S' v' (n+1) (cs++ [x])∧aT v'=some S.nx∧S'.nx=S.nx+1∧∀c,c<S.nx→aT v≠some c→S'.h.get c=S.h.get c:=by
 have hs:=aNU ht;rcases h with⟨rfl,rfl,rfl⟩ | ⟨b,rfl,hb0,hb,hg,hc⟩
 ·refine⟨.sl S.nx 0 1 1 true,⟨S.h.set S.nx (some (.cells [x] true 1)),S.nx+1⟩,?_,.inr ⟨S.nx,by rw[Ao],hS.1,by simp,?_,?_⟩,rfl,rfl,fun c hc _=>(Same.alloc S _).2 c hc⟩
  ·show(aX (some 1) fun j=>aX (eG (.sl t 0 1 1 false) S.h 1 j) fun new=>aCU .nilsl bytes 1 j new S)=_;rw[aK,hs,aK];show sE bytes 1 1 [x] S=_;unfold sE;rw[show Nat.beq 1 0=false from rfl,aQ,Aj (by omega),aL,Aj (by rw[Ao] at h2;exact h2),aL];rfl
  ·simp only;rw[T.get_set,if_pos rfl];rfl
  ·rfl
 ·refine⟨.sl S.nx 0 (n+1) (n+1) true,⟨(S.h.set b none).set S.nx (some (.cells (cs++ [x]) true 1)),S.nx+1⟩,?_,.inr ⟨S.nx,rfl,hS.1,by simp,?_,by rw[Ai,hc,An,Dx,Fm]⟩,rfl,rfl,fun c hc hne=>?_⟩
  ·show(aX (some 1) fun j=>aX (eG (.sl t 0 1 1 false) S.h 1 j) fun new=>aCU (.sl b 0 n n true) bytes 1 j new S)=_;rw[aK,hs,aK];show oV bytes 1 b 0 n n true 1 [x] S=_;unfold oV;have e2:Nat.ble (n+1) n=false:=by rw[Bv];intro h;have:=Ar h;omega
   rw[e2,aQ,Aj h1,aL,Aj h2,aL,hg,aK];have e3:cut cs 0 (n * 1)=some cs:=by
    unfold cut;rw[fI,fT,Ct,if_pos (by omega),Bj (by omega)]
   have e4:Nat.beq (0+n * 1) (jK cs)=true:=by rw[dO,hc,Bb];omega
   simp only[aBP,e3,aK,aL,e4,show Nat.beq 1 1=true from rfl,grown,gD]
  ·simp only;rw[T.get_set,if_pos rfl]
  ·simp only;have:c≠b:=fun e=>hne (by rw[e];rfl);rw[T.get_set,if_neg (by omega),T.get_set,if_neg this]
theorem gQ.move{k n:Nat}{S0 S S':St}{v:AV}{cs:List AV}(h:gQ k S0 S v n cs)(hn:S.nx≤S'.nx)(hh:∀c,aT v=some c→S'.h.get c=S.h.get c):gQ k S0 S' v n cs:=by
 rcases h with h | ⟨b,rfl,h2,h3,h4,h5⟩
 ·exact .inl h
 ·exact .inr ⟨b,rfl,h2,Ah h3 hn,(hh b rfl).trans h4,h5⟩
theorem cD.place{k:IntKind}{S:St}{v:AV}{l:List Int}(h:cD k S v l){i:Nat}(hi:i<l.length):∃b p,aBM v i= .ptr b p∧b<S.nx:=by
 rcases h with⟨h0,_⟩ | ⟨b,off,cap,o,cs,rfl,_,hb,_⟩
 ·rw[h0] at hi;exact absurd hi (Dy _)
 ·exact⟨b,_,rfl,hb⟩
theorem aD8{h:Ev.T AB}{b p sz:Nat}{l:List Int}{o:Bool}(hb:h.get b=some (.cells (bG l) o sz))(hp:p<l.length):dB (.ptr b p) false 1 h=some (.int .i64 (l.getD p 0)):=cS hb (by
 unfold bG;rw[Be,Ab hp,Ae,Ab hp];rfl)
theorem aGg{x0 x1 x2:Int}{a b c:AV}{k:IntKind}(ha:cM a a=true)(hb:cM b b=true)(hc:cM c c=true):cM (.agg [.int k x0,.int k x1,.int k x2,a,b,c]) (.agg [.int k x0,.int k x1,.int k x2,a,b,c])=true:=aEO (fV ..) (fV ..) (fV ..) ha hb hc
section
variable {g:bH}{m:List Int}{I F:List Int}{A:List (List Int)}{n e:Nat}
theorem qP.kids(G:qP g):∀j,j<g.nodes.length→∀k,k<(nodeAt g j).next.length→(j:Int)<(nodeAt g j).next.getD k 0∧(nodeAt g j).next.getD k 0<g.nodes.length:=fun j hj k hk=>by
 obtain⟨T,_,hTl,hW⟩:=G.walk;have hm:(nodeAt g j).next.getD k 0∈(nodeAt g j).next:=by rw[Ae,Ab hk];exact Br _
 have:=hW.cf j (by omega) _ (by rw[Ao,pM];exact hm);omega
end
end Go.Ev.Gl
