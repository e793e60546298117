import Derived.Test.YtkklchgmpejobaaDoorGl8
set_option maxHeartbeats 16000000
set_option linter.unusedSimpArgs false
set_option linter.unusedVariables false
namespace Go.Ev.Gl
variable {fns:T dB}
def nodeAt(g:bM)(i:Nat):bS:=g.nodes.getD i ⟨0,0,0,[],[],[]⟩
def aAu(g:bM)(s:Nat):Nat:=mN g.nodes 0 s - 1
theorem pI{g:bM}{i:Nat}{x:bS}(h:g.nodes[i]? =some x):nodeAt g i=x:=by unfold nodeAt;rw[Ah,h];rfl
theorem eK{g:bM}{i:Nat}(h:i<g.nodes.length):g.nodes[i]? =some (nodeAt g i):=by unfold nodeAt;rw[Ah,Ad h];rfl
theorem xF(g:bM)(i:Nat):jX g i=(nodeAt g i).next:=by
 unfold jX nodeAt;rw[Ah];cases g.nodes[i]? <;>rfl
theorem aEt{i:Nat}:∀ {l:List bS} {s:Nat},mN l s i≠0→∃j x,l[j]? =some x∧mN l s i=s+j+1∧x.kind=2∧x.info=(i:Int)
 | [],s,h=>absurd rfl h
 | x::l,s,h=>by
  simp only[mN] at h ⊢;by_cases hx:x.kind=2∧x.info=(i:Int)
  ·rw[if_pos hx];exact⟨0,x,rfl,rfl,hx.1,hx.2⟩
  ·rw[if_neg hx] at h ⊢;obtain⟨j,y,h1,h2,h3,h4⟩:=aEt h;exact⟨j+1,y,by rw[List.getElem?_cons_succ];exact h1,by rw[h2];omega,h3,h4⟩
theorem aLg{ps:Int}{ni:Nat}{x:bS}(h:iI ps ni x=0)(hp:ps≤4):x.pay.length≤4:=by
 unfold iI at h;split at h
 ·split at h
  ·cases h
  ·rename_i hb;unfold tC at hb;omega
 ·split at h
  ·split at h
   ·cases h
   ·rename_i hb;unfold xM at hb;omega
  ·split at h
   ·split at h
    ·cases h
    ·rename_i hb;unfold tI at hb;omega
   ·cases h
structure aAo(g:bM):Prop where
 n1:0<g.nodes.length
 n2:g.nodes.length≤2000
 ni:g.infos.length≤200
 nxt:∀i,i<g.nodes.length→(nodeAt g i).next.length≤1000
 pay:∀i,i<g.nodes.length→(nodeAt g i).pay.length≤4
 wts:∀i,i<g.nodes.length→(nodeAt g i).kind=1→(nodeAt g i).weights.length=(nodeAt g i).next.length
 inf:∀i,i<g.nodes.length→(nodeAt g i).kind=2→0≤(nodeAt g i).info∧(nodeAt g i).info<g.infos.length∧(infoAt g (nodeAt g i).info).actions=(((nodeAt g i).next.length:Nat):Int)
 fst:∀s,s<g.infos.length→aAu g s<g.nodes.length∧(nodeAt g (aAu g s)).kind=2∧(nodeAt g (aAu g s)).info=(s:Int)
 walk:∃T,uW g=some T∧T.length=g.nodes.length∧WF (jX g) 0 (-1) T
theorem tS{g:bM}(h:gM g=0):aAo g:=by
 unfold gM at h;split at h
 ·cases h
 rename_i hb;split at h
 ·rename_i h1;exact absurd h h1
 rename_i hN;have hN:=Decidable.not_not.1 hN;cases hW:uW g with
 | none=>rw[hW] at h;cases h
 | some T=>
  rw[hW] at h;simp only at h;split at h
  ·cases h
  rename_i hT;split at h
  ·cases h
  unfold aBy at h;split at h
  ·cases h
  rename_i hmis;split at h
  ·cases h
  rename_i hfst;unfold tH at hb;have hmem:∀i,i<g.nodes.length→nodeAt g i∈g.nodes:=fun i hi=>Aw (eK hi);refine⟨by omega,by omega,by omega,fun i hi=>aD7 (jT hN _ (hmem i hi)),fun i hi=>aLg (jT hN _ (hmem i hi)) (by omega),fun i hi hk=>?_,fun i hi hk=>?_,fun s hs=>?_,T,hW,by omega,?_⟩
  ·have:=jT hN _ (hmem i hi);unfold iI at this;rw[if_pos hk] at this;split at this
   ·cases this
   ·rename_i hc;unfold tC at hc;omega
  ·obtain⟨a,b⟩:=aEy (jT hN _ (hmem i hi)) hk;refine⟨a,b,Decidable.byContradiction fun hne=>hmis ⟨_,hmem i hi,hk,fun hh=>hne hh.2⟩⟩
  ·have hne:mN g.nodes 0 s≠0:=fun e=>hfst (by
    unfold kK;exact Ej.2 ⟨s,Fk.2 hs,by rw[e];rfl⟩)
   obtain⟨j,x,h1,h2,h3,h4⟩:=aEt hne;have e:aAu g s=j:=by unfold aAu;omega
   rw[e,pI h1];exact⟨(Ae.1 h1).1,h3,h4⟩
  ·unfold uW at hW;exact aDb hW
section
variable {g:bM}{m:List Int}{V V':Nat→Prop}{W W':Nat→Nat→Prop}{I F:List Int}{A:List (List Int)}
end
section
variable {S0 X X':St}{bs:Nat→Nat}{cs:List AV}{A:List (List Int)}
theorem aJ9{l:List (List Int)}{x:List Int}{j:Nat}:(l++ [x]).getD j []=if j=l.length then x else l.getD j []:=by
 rw[Ah,Ah];by_cases h:j<l.length
 ·rw[Ay h,if_neg (by omega)]
 ·rw[Az (by omega)];by_cases e:j=l.length
  ·rw[if_pos e,e,Cp];rfl
  ·rw[if_neg e,Bo (by simp;omega),Bo (by omega)]
end
theorem gQ.push1{bytes t n:Nat}{S0 S:St}{v x:AV}{cs:List AV}(h:gQ 1 S0 S v n cs)(hS:Same S0 S)(ht:S.h.get t=some (.cells [x] false 0))(h1:n+1≤room)(h2:(n+1) * bytes≤room):
  ∃v' S',gN bytes 1 v (.sl t 0 1 1 false) S=some (v',S')∧gQ 1 S0 S' v' (n+1) (cs++ [x])∧aS v'=some S.nx∧S'.nx=S.nx+1∧∀c,c<S.nx→aS v≠some c→S'.h.get c=S.h.get c:=by
 have hs:=aNi ht;rcases h with⟨rfl,rfl,rfl⟩ | ⟨b,rfl,hb0,hb,hg,hc⟩
 ·refine⟨.sl S.nx 0 1 1 true,⟨S.h.set S.nx (some (.cells [x] true 1)),S.nx+1⟩,?_,.inr ⟨S.nx,by rw[Ap],hS.1,by simp,?_,?_⟩,rfl,rfl,fun c hc _=>(Same.alloc S _).2 c hc⟩
  ·show(aW (some 1) fun j=>aW (eH (.sl t 0 1 1 false) S.h 1 j) fun new=>aDh .nilsl bytes 1 j new S)=_;rw[aJ,hs,aJ];show rM bytes 1 1 [x] S=_;unfold rM;rw[show Nat.beq 1 0=false from rfl,aR,Aj (by omega),aL,Aj (by rw[Ap] at h2;exact h2),aL];rfl
  ·simp only;rw[T.get_set,if_pos rfl];rfl
  ·rfl
 ·refine⟨.sl S.nx 0 (n+1) (n+1) true,⟨(S.h.set b none).set S.nx (some (.cells (cs++ [x]) true 1)),S.nx+1⟩,?_,.inr ⟨S.nx,rfl,hS.1,by simp,?_,by rw[Ai,hc,Am,Du,Fj]⟩,rfl,rfl,fun c hc hne=>?_⟩
  ·show(aW (some 1) fun j=>aW (eH (.sl t 0 1 1 false) S.h 1 j) fun new=>aDh (.sl b 0 n n true) bytes 1 j new S)=_;rw[aJ,hs,aJ];show oL bytes 1 b 0 n n true 1 [x] S=_;unfold oL;have e2:Nat.ble (n+1) n=false:=by rw[Br];intro h;have:=Ao h;omega
   rw[e2,aR,Aj h1,aL,Aj h2,aL,hg,aJ];have e3:cut cs 0 (n * 1)=some cs:=by
    unfold cut;rw[fF,fQ,Co,if_pos (by omega),Bg (by omega)]
   have e4:Nat.beq (0+n * 1) (iW cs)=true:=by rw[dR,hc,Ax];omega
   simp only[aBs,e3,aJ,aL,e4,show Nat.beq 1 1=true from rfl,grown,fT]
  ·simp only;rw[T.get_set,if_pos rfl]
  ·simp only;have:c≠b:=fun e=>hne (by rw[e];rfl);rw[T.get_set,if_neg (by omega),T.get_set,if_neg this]
theorem gQ.move{k n:Nat}{S0 S S':St}{v:AV}{cs:List AV}(h:gQ k S0 S v n cs)(hn:S.nx≤S'.nx)(hh:∀c,aS v=some c→S'.h.get c=S.h.get c):gQ k S0 S' v n cs:=by
 rcases h with h | ⟨b,rfl,h2,h3,h4,h5⟩
 ·exact .inl h
 ·exact .inr ⟨b,rfl,h2,Af h3 hn,(hh b rfl).trans h4,h5⟩
theorem cE.place{k:IntKind}{S:St}{v:AV}{l:List Int}(h:cE k S v l){i:Nat}(hi:i<l.length):∃b p,aBt v i= .ptr b p∧b<S.nx:=by
 rcases h with⟨h0,_⟩ | ⟨b,off,cap,o,cs,rfl,_,hb,_⟩
 ·rw[h0] at hi;exact absurd hi (Ea _)
 ·exact⟨b,_,rfl,hb⟩
theorem aHF{h:Ev.T AB}{b p sz:Nat}{l:List Int}{o:Bool}(hb:h.get b=some (.cells (bG l) o sz))(hp:p<l.length):cW (.ptr b p) false 1 h=some (.int .i64 (l.getD p 0)):=cT hb (by
 unfold bG;rw[Bi,Ad hp,Ah,Ad hp];rfl)
theorem aF1{x0 x1 x2:Int}{a b c:AV}{k:IntKind}(ha:cL a a=true)(hb:cL b b=true)(hc:cL c c=true):cL (.agg [.int k x0,.int k x1,.int k x2,a,b,c]) (.agg [.int k x0,.int k x1,.int k x2,a,b,c])=true:=aA8 (fV ..) (fV ..) (fV ..) ha hb hc
section
variable {g:bM}{m:List Int}{I F:List Int}{A:List (List Int)}{n e:Nat}
end
end Go.Ev.Gl
