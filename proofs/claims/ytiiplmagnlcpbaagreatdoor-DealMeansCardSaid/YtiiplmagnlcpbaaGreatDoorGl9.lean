import Derived.Test.YtiiplmagnlcpbaaGreatDoorGl8
set_option linter.unusedSimpArgs false
set_option linter.unusedVariables false
set_option maxHeartbeats 0
namespace Go.Ev.Gl
variable {fns:T dD}
def cj(g:bD)(i:Nat):dI:=g.bw.getD i ⟨0,0,0,[],[],[]⟩
def aBh(g:bD)(s:Nat):Nat:=mP g.bw 0 s - 1
theorem aJ5{g:bD}{i:Nat}{x:dI}(h:g.bw[i]? =some x):cj g i=x:=by unfold cj;rw[Ae,h];rfl
theorem iK{g:bD}{i:Nat}(h:i<g.bw.length):g.bw[i]? =some (cj g i):=by unfold cj;rw[Ae,Ad h];rfl
theorem kR(g:bD)(i:Nat):iB g i=(cj g i).next:=by
 unfold iB cj;rw[Ae];cases g.bw[i]? <;>rfl
theorem aFs{i:Nat}:∀ {l:List dI} {s:Nat},mP l s i≠0->∃j x,l[j]? =some x/\mP l s i=s+j+1/\x.kind=2/\x.info=(i:Int)
 | [],s,h=>absurd rfl h
 | x::l,s,h=>by
  simp only[mP] at h ⊢;by_cases hx:x.kind=2/\x.info=(i:Int)
  ·rw[if_pos hx];exact⟨0,x,rfl,rfl,hx.1,hx.2⟩
  ·rw[if_neg hx] at h ⊢;have⟨j,y,h1,h2,h3,h4⟩:=aFs h;exact⟨j+1,y,by rw[Fy];exact h1,by rw[h2];omega,h3,h4⟩
theorem aNo{ps:Int}{ni:Nat}{x:dI}(h:jW ps ni x=0)(hp:ps<=4):x.pay.length<=4:=by
 unfold jW at h;split at h
 ·split at h
  ·cases h
  ·rename_i hb;unfold uU at hb;omega
 ·split at h
  ·split at h
   ·cases h
   ·rename_i hb;unfold aAm at hb;omega
  ·split at h
   ·split at h
    ·cases h
    ·rename_i hb;unfold wR at hb;omega
   ·cases h
structure jI(g:bD):Prop where
 n1:0<g.bw.length
 n2:g.bw.length<=2000
 ni:g.bz.length<=200
 nxt:∀i,i<g.bw.length->(cj g i).next.length<=1000
 pay:∀i,i<g.bw.length->(cj g i).pay.length<=4
 wts:∀i,i<g.bw.length->(cj g i).kind=1->(cj g i).weights.length=(cj g i).next.length
 inf:∀i,i<g.bw.length->(cj g i).kind=2->0<=(cj g i).info/\(cj g i).info<g.bz.length/\(ck g (cj g i).info).cd=(((cj g i).next.length:Nat):Int)
 fst:∀s,s<g.bz.length->aBh g s<g.bw.length/\(cj g (aBh g s)).kind=2/\(cj g (aBh g s)).info=(s:Int)
 walk:∃T,pQ g=some T/\T.length=g.bw.length/\WF (iB g) 0 (-1) T
theorem aP2{g:bD}(h:eO g=0):jI g:=by
 unfold eO at h;split at h
 ·cases h
 rename_i hb;split at h
 ·rename_i h1;exact absurd h h1
 rename_i hN;have hN:=Hk.1 hN;cases hW:pQ g with
 | none=>rw[hW] at h;cases h
 | some T=>
  rw[hW] at h;simp only at h;split at h
  ·cases h
  rename_i hT;split at h
  ·cases h
  unfold aBA at h;split at h
  ·cases h
  rename_i hmis;split at h
  ·cases h
  rename_i hfst;unfold uI at hb;have hmem:∀i,i<g.bw.length->cj g i∈g.bw:=fun i hi=>Cm (iK hi);refine⟨au,au,au,fun i hi=>aFU (lP hN _ (hmem i hi)),fun i hi=>aNo (lP hN _ (hmem i hi)) au,fun i hi hk=>?_,fun i hi hk=>?_,fun s hs=>?_,T,hW,au,?_⟩
  ·have:=lP hN _ (hmem i hi);unfold jW at this;rw[if_pos hk] at this;split at this
   ·cases this
   ·rename_i hc;unfold uU at hc;omega
  ·have⟨a,b⟩:=aFM (lP hN _ (hmem i hi)) hk;refine⟨a,b,Decidable.byContradiction fun hne=>hmis ⟨_,hmem i hi,hk,fun hh=>hne hh.2⟩⟩
  ·have hne:mP g.bw 0 s≠0:=fun e=>hfst (by
    unfold lD;exact He.2 ⟨s,List.mem_range.2 hs,by rw[e];rfl⟩)
   have⟨j,x,h1,h2,h3,h4⟩:=aFs hne;have e:aBh g s=j:=by unfold aBh;omega
   rw[e,aJ5 h1];exact⟨(Ai.1 h1).1,h3,h4⟩
  ·unfold pQ at hW;exact rM hW
section
variable {g:bD}{m:bm}{V V':Nat->Prop}{W W':Nat->Nat->Prop}{I F:bm}{A:List (bm)}
end
section
variable {S0 X X':St}{bs:Nat->Nat}{cs:bo}{A:List (bm)}
theorem aMy{l:List (bm)}{x:bm}{j:Nat}:(l++ [x]).getD j []=if j=l.length then x else l.getD j []:=by
 rw[Ae,Ae];by_cases h:j<l.length
 ·rw[Ap h,if_neg au]
 ·rw[Aq au];by_cases e:j=l.length
  ·rw[if_pos e,e,Ef];rfl
  ·rw[if_neg e,Bo (by simp;omega),Bo au]
end
theorem lN.push1{bytes t n:Nat}{S0 S:St}{v x:AV}{cs:bo}(h:lN 1 S0 S v n cs)(hS:Same S0 S)(ht:S.h.get t=some (.cells [x] false 0))(h1:n+1<=room)(h2:(n+1) * bytes<=room):
  ∃v' S',iW bytes 1 v (.sl t 0 1 1 false) S=some (v',S')/\lN 1 S0 S' v' (n+1) (cs++ [x])/\bP v'=some S.nx/\S'.nx=S.nx+1/\∀c,c<S.nx->bP v≠some c->S'.h.get c=S.h.get c:=by
 have hs:=aSu ht;rcases h with⟨rfl,rfl,rfl⟩ | ⟨b,rfl,hb0,hb,hg,hc⟩
 ·refine⟨.sl S.nx 0 1 1 true,⟨S.h.set S.nx (some (.cells [x] true 1)),S.nx+1⟩,?_,.inr ⟨S.nx,by rw[Ao],hS.1,by simp,?_,?_⟩,rfl,rfl,fun c hc _=>(Same.alloc S _).2 c hc⟩
  ·show(aU (some 1) fun j=>aU (eU (.sl t 0 1 1 false) S.h 1 j) fun new=>xG .ce bytes 1 j new S)=_;rw[aH,hs,aH];show pF bytes 1 1 [x] S=_;unfold pF;rw[show Nat.beq 1 0=false from rfl,aR,Ah au,aN,Ah (by rw[Ao] at h2;exact h2),aN];rfl
  ·simp only;rw[dq,if_pos rfl];rfl
  ·rfl
 ·refine⟨.sl S.nx 0 (n+1) (n+1) true,⟨(S.h.set b none).set S.nx (some (.cells (cs++ [x]) true 1)),S.nx+1⟩,?_,.inr ⟨S.nx,rfl,hS.1,by simp,?_,by rw[Aj,hc,Bc,Ch,Nat.one_mul]⟩,rfl,rfl,fun c hc hne=>?_⟩
  ·show(aU (some 1) fun j=>aU (eU (.sl t 0 1 1 false) S.h 1 j) fun new=>xG (.sl b 0 n n true) bytes 1 j new S)=_;rw[aH,hs,aH];show pT bytes 1 b 0 n n true 1 [x] S=_;unfold pT;have e2:Nat.ble (n+1) n=false:=by rw[Ca];intro h;have:=Au h;omega
   rw[e2,aR,Ah h1,aN,Ah h2,aN,hg,aH];have e3:cut cs 0 (n * 1)=some cs:=by
    unfold cut;rw[jC,jM,Dn,if_pos au,Ay au]
   have e4:Nat.beq (0+n * 1) (kL cs)=true:=by rw[eR,hc,Az];omega
   simp only[aAR,e3,aH,aN,e4,show Nat.beq 1 1=true from rfl,grown,fE]
  ·simp only;rw[dq,if_pos rfl]
  ·simp only;have:c≠b:=fun e=>hne (by rw[e];rfl);rw[dq,if_neg au,dq,if_neg this]
theorem lN.move{k n:Nat}{S0 S S':St}{v:AV}{cs:bo}(h:lN k S0 S v n cs)(hn:S.nx<=S'.nx)(hh:∀c,bP v=some c->S'.h.get c=S.h.get c):lN k S0 S' v n cs:=by
 rcases h with h | ⟨b,rfl,h2,h3,h4,h5⟩
 ·exact .inl h
 ·exact .inr ⟨b,rfl,h2,Ag h3 hn,(hh b rfl).trans h4,h5⟩
theorem cH.place{k:IntKind}{S:St}{v:AV}{l:bm}(h:cH k S v l){i:Nat}(hi:i<l.length):∃b p,nQ v i= .ptr b p/\b<S.nx:=by
 rcases h with⟨h0,_⟩ | ⟨b,off,cap,o,cs,rfl,_,hb,_⟩
 ·rw[h0] at hi;exact absurd hi (Dc _)
 ·exact⟨b,_,rfl,hb⟩
theorem lN.low{k n:Nat}{S S1 X:St}{v:AV}{cs:bo}(h:lN k S1 X v n cs)(hs:S.nx<=S1.nx):lN k S X v n cs:=by
 rcases h with h | ⟨b,h1,h2,h3⟩
 ·exact .inl h
 ·exact .inr ⟨b,h1,Bb hs h2,h3⟩
theorem aJ0{h:Ev.T AB}{b p sz:Nat}{l:bm}{o:Bool}(hb:h.get b=some (.cells (bE l) o sz))(hp:p<l.length):dJ (.ptr b p) false 1 h=some (.int .i64 (l.getD p 0)):=eE hb (by
 unfold bE;rw[Bz,Ad hp,Ae,Ad hp];rfl)
theorem aII{k:IntKind}{x:Int}(h:0<=x):dS (.int k x)=some x.toNat:=by
 obtain⟨n,rfl⟩:∃n:Nat,x=(n:Int):=⟨x.toNat,au⟩;rw[Bd];exact aW ..
theorem aA4{x0 x1 x2:Int}{a b c:AV}{k:IntKind}(ha:cQ a a=true)(hb:cQ b b=true)(hc:cQ c c=true):cQ (.agg [.int k x0,.int k x1,.int k x2,a,b,c]) (.agg [.int k x0,.int k x1,.int k x2,a,b,c])=true:=aFh (kO ..) (kO ..) (kO ..) ha hb hc
section
variable {g:bD}{m:bm}{I F:bm}{A:List (bm)}{n e:Nat}
theorem jI.kids(G:jI g):∀j,j<g.bw.length->∀k,k<(cj g j).next.length->(j:Int)<(cj g j).next.getD k 0/\(cj g j).next.getD k 0<g.bw.length:=fun j hj k hk=>by
 have⟨T,_,hTl,hW⟩:=G.walk;have hm:(cj g j).next.getD k 0∈(cj g j).next:=by rw[Ae,Ad hk];exact Cv _
 have:=hW.cf j au _ (by rw[Ao,kR];exact hm);omega
theorem jI.only(G:jI g){j k j' k':Nat}(hj:j<g.bw.length)(hk:k<(cj g j).next.length)(hj':j'<g.bw.length)(hk':k'<(cj g j').next.length)(e:(cj g j).next.getD k 0=(cj g j').next.getD k' 0):j=j'/\k=k':=by
 have⟨T,_,hTl,hW⟩:=G.walk;have mem:∀ {j k:Nat},k<(cj g j).next.length->(cj g j).next.getD k 0∈(cj g j).next:=fun {j k} hk=>by rw[Ae,Ad hk];exact Cv _
 have h1:=(hW.cf j au _ (by rw[Ao,kR];exact mem hk)).2.2;have h2:=(hW.cf j' au _ (by rw[Ao,kR];exact mem hk')).2.2;rw[e,h2] at h1;have hjj:j=j':=by have:=Cd h1;omega
 subst hjj;have hinc:=hW.inc j au;rw[Ao,kR] at hinc;refine⟨rfl,?_⟩;rw[Ae,Ae,Ad hk,Ad hk'] at e;have e:(cj g j).next[k]=(cj g j).next[k']:=e;rcases Gv k k' with h | h | h
 ·have:=Fg.1 hinc k k' hk hk' h;omega
 ·exact h
 ·have:=Fg.1 hinc k' k hk' hk h;omega
end
end Go.Ev.Gl
