import Derived.Test.YtdkehphobhnjoaaGl8
open Nat renaming reduceEqDiff → rE, reduceAdd → rA
set_option maxHeartbeats 16000000
set_option linter.unusedSimpArgs false
set_option linter.unusedVariables false
namespace Go.Ev.Gl
variable {fns:T dE}
theorem gD.same{S S':St}{wb plb szb:Nat}{pv nv iv:AV}{g:aW}{R Z:List Int}(h:gD S wb plb szb pv nv iv g R Z)(hs:Same S S'):gD S' wb plb szb pv nv iv g R Z:=
 ⟨h.w.same hs,(hs.2 _ h.bp).trans h.gp,(hs.2 _ h.bz).trans h.gz,h.lp,h.lz,Ae h.bp hs.1,Ae h.bz hs.1⟩
abbrev aMr(P:St→St→AV→AV→Prop):Prop:=∀ {S0 S1 S2:St} {x y:AV},P S0 S1 x y→S1.nx≤S2.nx→(∀c,S0.nx≤c→c<S1.nx→S2.h.get c=S1.h.get c)→P S0 S2 x y
def nodeAt(g:aW)(i:Nat):dW:=g.nodes.getD i ⟨0,0,0,[],[],[]⟩
def eB(m:List Int)(i:Nat):Nat:=(m.getD i 0).toNat
def iM(g:aW)(m:List Int)(i k:Nat):Int:=iJ (nodeAt g (eB m i)).next 0 (m.getD ((nodeAt g i).next.getD k 0).toNat 0)
structure fT(g:aW)(m:List Int):Prop where
 root:m.getD 0 0=0
 like:∀i,i<g.nodes.length→(nodeAt g i).kind=(nodeAt g (eB m i)).kind∧(nodeAt g i).next.length=(nodeAt g (eB m i)).next.length∧(nodeAt g i).pay=(nodeAt g (eB m i)).pay∧(nodeAt g i).player=(nodeAt g (eB m i)).player
 kid:∀i k,i<g.nodes.length→k<(nodeAt g i).next.length→0≤iM g m i k
 weigh:∀i k,i<g.nodes.length→k<(nodeAt g i).next.length→(nodeAt g i).kind=1→(nodeAt g i).weights.getD k 0=(nodeAt g (eB m i)).weights.getD (iM g m i k).toNat 0
 info:∀i j,i<g.nodes.length→j<g.nodes.length→(nodeAt g i).kind=2→(nodeAt g j).kind=2→(nodeAt g i).info=(nodeAt g j).info→(nodeAt g (eB m i)).info=(nodeAt g (eB m j)).info∧∀k,k<(nodeAt g i).next.length→iM g m i k=iM g m j k
 inj:∀i j,i<g.nodes.length→j<g.nodes.length→(nodeAt g i).kind=2→(nodeAt g j).kind=2→(nodeAt g (eB m i)).info=(nodeAt g (eB m j)).info→(nodeAt g i).info=(nodeAt g j).info
def iS(g:aW)(s:Nat):Nat:=kD g.nodes 0 s - 1
def imgI(g:aW)(m:List Int):List Int:=(List.range g.infos.length).map fun s=>(nodeAt g (eB m (iS g s))).info
def imgA(g:aW)(m:List Int):List (List Int):=(List.range g.infos.length).map fun s=>(List.range (nodeAt g (iS g s)).next.length).map fun k=>iM g m (iS g s) k
theorem aG3{g:aW}{i:Nat}{x:dW}(h:g.nodes[i]? =some x):nodeAt g i=x:=by unfold nodeAt;rw[Ad,h];rfl
theorem eC{g:aW}{i:Nat}(h:i<g.nodes.length):g.nodes[i]? =some (nodeAt g i):=by unfold nodeAt;rw[Ad,Ac h];rfl
theorem fO(g:aW)(i:Nat):dB g i=(nodeAt g i).next:=by
 unfold dB nodeAt;rw[Ad];cases g.nodes[i]? <;>rfl
theorem aDb{i:Nat}:∀ {l:List dW} {s:Nat},kD l s i≠0→∃j x,l[j]? =some x∧kD l s i=s+j+1∧x.kind=2∧x.info=(i:Int)
 | [],s,h=>absurd rfl h
 | x::l,s,h=>by
  simp only[kD] at h ⊢;by_cases hx:x.kind=2∧x.info=(i:Int)
  ·rw[if_pos hx];exact⟨0,x,rfl,rfl,hx.1,hx.2⟩
  ·rw[if_neg hx] at h ⊢;obtain⟨j,y,h1,h2,h3,h4⟩:=aDb h;exact⟨j+1,y,by rw[Dm];exact h1,by rw[h2];omega,h3,h4⟩
theorem aJp{ps:Int}{ni:Nat}{x:dW}(h:fM ps ni x=0)(hp:ps≤4):x.pay.length≤4:=by
 unfold fM at h;split at h
 ·split at h
  ·cases h
  ·rename_i hb;unfold kT at hb;omega
 ·split at h
  ·split at h
   ·cases h
   ·rename_i hb;unfold sK at hb;omega
  ·split at h
   ·split at h
    ·cases h
    ·rename_i hb;unfold lD at hb;omega
   ·cases h
structure fC(g:aW):Prop where
 n1:0<g.nodes.length
 n2:g.nodes.length≤2000
 ni:g.infos.length≤200
 nxt:∀i,i<g.nodes.length→(nodeAt g i).next.length≤1000
 pay:∀i,i<g.nodes.length→(nodeAt g i).pay.length≤4
 wts:∀i,i<g.nodes.length→(nodeAt g i).kind=1→(nodeAt g i).weights.length=(nodeAt g i).next.length
 inf:∀i,i<g.nodes.length→(nodeAt g i).kind=2→0≤(nodeAt g i).info∧(nodeAt g i).info<g.infos.length∧(infoAt g (nodeAt g i).info).actions=(((nodeAt g i).next.length:Nat):Int)
 fst:∀s,s<g.infos.length→iS g s<g.nodes.length∧(nodeAt g (iS g s)).kind=2∧(nodeAt g (iS g s)).info=(s:Int)
 walk:∃T,eK g=some T∧T.length=g.nodes.length∧WF (dB g) 0 (-1) T
theorem kA{g:aW}(h:cM g=0):fC g:=by
 unfold cM at h;split at h
 ·cases h
 rename_i hb;split at h
 ·rename_i h1;exact absurd h h1
 rename_i hN;have hN:=Du.1 hN;cases hW:eK g with
 | none=>rw[hW] at h;cases h
 | some T=>
  rw[hW] at h;simp only at h;split at h
  ·cases h
  rename_i hT;split at h
  ·cases h
  unfold yM at h;split at h
  ·cases h
  rename_i hmis;split at h
  ·cases h
  rename_i hfst;unfold kO at hb;have hmem:∀i,i<g.nodes.length→nodeAt g i∈g.nodes:=fun i hi=>Bm (eC hi);refine⟨by omega,by omega,by omega,fun i hi=>aAl (fZ hN _ (hmem i hi)),fun i hi=>aJp (fZ hN _ (hmem i hi)) (by omega),fun i hi hk=>?_,fun i hi hk=>?_,fun s hs=>?_,T,hW,by omega,?_⟩
  ·have:=fZ hN _ (hmem i hi);unfold fM at this;rw[if_pos hk] at this;split at this
   ·cases this
   ·rename_i hc;unfold kT at hc;omega
  ·obtain⟨a,b⟩:=aAe (fZ hN _ (hmem i hi)) hk;refine⟨a,b,Decidable.byContradiction fun hne=>hmis ⟨_,hmem i hi,hk,fun hh=>hne hh.2⟩⟩
  ·have hne:kD g.nodes 0 s≠0:=fun e=>hfst (by
    unfold fB;exact Cy.2 ⟨s,Fa.2 hs,by rw[e];rfl⟩)
   obtain⟨j,x,h1,h2,h3,h4⟩:=aDb hne;have e:iS g s=j:=by unfold iS;omega
   rw[e,aG3 h1];exact⟨(Ai.1 h1).1,h3,h4⟩
  ·unfold eK at hW;exact iC hW
def aAS(g:aW)(m:List Int)(i:Nat):Prop:=(nodeAt g i).kind=(nodeAt g (eB m i)).kind∧(nodeAt g i).next.length=(nodeAt g (eB m i)).next.length∧(nodeAt g i).pay=(nodeAt g (eB m i)).pay∧(nodeAt g i).player=(nodeAt g (eB m i)).player
def yJ(g:aW)(m:List Int)(i k:Nat):Prop:=(nodeAt g i).kind=1→(nodeAt g i).weights.getD k 0=(nodeAt g (eB m i)).weights.getD (iM g m i k).toNat 0
structure Seen(g:aW)(m:List Int)(V:Nat→Prop)(W:Nat→Nat→Prop)(I:List Int)(A:List (List Int)):Prop where
 li:I.length=g.infos.length
 la:A.length=g.infos.length
 ls:∀s,s<g.infos.length→(((A.getD s []).length:Nat):Int)=(infoAt g (s:Int)).actions
 iv:∀j,j<g.nodes.length→V j→(nodeAt g j).kind=2→I.getD (nodeAt g j).info.toNat 0=(nodeAt g (eB m j)).info
 iw:∀s,s<g.infos.length→0≤I.getD s 0→∃j,j<g.nodes.length∧V j∧(nodeAt g j).kind=2∧(nodeAt g j).info=(s:Int)
 lk:∀j,j<g.nodes.length→V j→aAS g m j
 kd:∀j k,j<g.nodes.length→k<(nodeAt g j).next.length→W j k→0≤iM g m j k∧yJ g m j k∧((nodeAt g j).kind=2→(A.getD (nodeAt g j).info.toNat []).getD k 0=iM g m j k)
structure xI(g:aW)(m:List Int):Prop where
 len:m.length=g.nodes.length
 inn:lF m g.nodes.length
section
variable {g:aW}{m:List Int}{V V':Nat→Prop}{W W':Nat→Nat→Prop}{I F:List Int}{A:List (List Int)}
theorem xI.at(h:xI g m){i:Nat}(hi:i<g.nodes.length):m.getD i 0=((eB m i:Nat):Int)∧eB m i<g.nodes.length:=by
 have hl:i<m.length:=by rw[h.len];exact hi
 have hmem:m.getD i 0∈m:=by rw[Ad,Ac hl];exact Bh _
 have:=h.inn _ hmem;unfold eB;omega
theorem Seen.congr(h:Seen g m V W I A)(hV:∀j,j<g.nodes.length→(V j↔V' j))(hW:∀j k,j<g.nodes.length→k<(nodeAt g j).next.length→W' j k→W j k):Seen g m V' W' I A:=
 ⟨h.li,h.la,h.ls,fun j hj hv=>h.iv j hj ((hV j hj).2 hv),fun s hs h0=>by obtain⟨j,a,b,c⟩:=h.iw s hs h0;exact⟨j,a,(hV j a).1 b,c⟩,fun j hj hv=>h.lk j hj ((hV j hj).2 hv),fun j k hj hk hw=>h.kd j k hj hk (hW j k hj hk hw)⟩
theorem kR{l:List Int}{n j:Nat}{x:Int}(hn:n<l.length):(l.set n x).getD j 0=if n=j then x else l.getD j 0:=by
 rw[Ad,Dt];split
 ·rfl
 ·rw[Ad]
theorem qE{l:List (List Int)}{n j:Nat}{x:List Int}(hn:n<l.length):(l.set n x).getD j []=if n=j then x else l.getD j []:=by
 rw[Ad,Dt];split
 ·rfl
 ·rw[Ad]
theorem mX(G:fC g)(M:xI g m){i:Nat}(hi:i<g.nodes.length)(hl:aAS g m i)(hk:(nodeAt g i).kind=2):0≤(nodeAt g (eB m i)).info∧(nodeAt g (eB m i)).info<g.infos.length:=by
 have:=G.inf (eB m i) (M.at hi).2 (by rw[←hl.1];exact hk);exact⟨this.1,this.2.1⟩
theorem Seen.node(h:Seen g m V W I A){i:Nat}(hl:aAS g m i)(hk:(nodeAt g i).kind≠2):Seen g m (fun j=>V j∨j=i) W I A:=
 ⟨h.li,h.la,h.ls,fun j hj hv hk'=>by
  rcases hv with hv | rfl
  ·exact h.iv j hj hv hk'
  ·exact absurd hk' hk,fun s hs h0=>by obtain⟨j,a,b,c⟩:=h.iw s hs h0;exact⟨j,a,.inl b,c⟩,fun j hj hv=>by
  rcases hv with hv | rfl
  ·exact h.lk j hj hv
  ·exact hl,h.kd⟩
theorem Seen.nodeM(G:fC g)(M:xI g m)(h:Seen g m V W I A){i:Nat}(hi:i<g.nodes.length)(hl:aAS g m i)(hk:(nodeAt g i).kind=2)(hI:0≤I.getD (nodeAt g i).info.toNat 0→I.getD (nodeAt g i).info.toNat 0=(nodeAt g (eB m i)).info):Seen g m (fun j=>V j∨j=i) W (I.set (nodeAt g i).info.toNat (nodeAt g (eB m i)).info) A:=by
 obtain⟨a1,a2,a3⟩:=G.inf i hi hk;have hlt:(nodeAt g i).info.toNat<I.length:=by rw[h.li];omega
 refine⟨by rw[Al];exact h.li,h.la,h.ls,fun j hj hv hk'=>?_,fun s hs h0=>?_,fun j hj hv=>?_,h.kd⟩
 ·rw[kR hlt];obtain⟨b1,b2,b3⟩:=G.inf j hj hk';rcases hv with hv | rfl
  ·have:=h.iv j hj hv hk';split
   ·rename_i e;have e':(nodeAt g j).info=(nodeAt g i).info:=by omega
    rw[e'] at this;have:=hI (by rw[this];exact(mX G M hj (h.lk j hj hv) hk').1);omega
   ·exact this
  ·rw[if_pos rfl]
 ·rw[kR hlt] at h0;split at h0
  ·rename_i e;exact⟨i,hi,.inr rfl,hk,by omega⟩
  ·obtain⟨j,a,b,c⟩:=h.iw s hs h0;exact⟨j,a,.inl b,c⟩
 ·rcases hv with hv | rfl
  ·exact h.lk j hj hv
  ·exact hl
theorem Seen.kid(h:Seen g m V W I A){i k:Nat}(h0:0≤iM g m i k)(hw:yJ g m i k)(hk:(nodeAt g i).kind≠2):Seen g m V (fun j k'=>W j k'∨(j=i∧k'=k)) I A:=
 ⟨h.li,h.la,h.ls,h.iv,h.iw,h.lk,fun j k' hj hk' hv=>by
  rcases hv with hv | ⟨rfl,rfl⟩
  ·exact h.kd j k' hj hk' hv
  ·exact⟨h0,hw,fun e=>absurd e hk⟩⟩
theorem Seen.kidM(G:fC g)(h:Seen g m V W I A){i k:Nat}(hi:i<g.nodes.length)(hkl:k<(nodeAt g i).next.length)(h0:0≤iM g m i k)(hw:yJ g m i k)(hk:(nodeAt g i).kind=2)
  (hA:∀j,j<g.nodes.length→W j k→(nodeAt g j).kind=2→(nodeAt g j).info=(nodeAt g i).info→(A.getD (nodeAt g i).info.toNat []).getD k 0=iM g m i k):
  Seen g m V (fun j k'=>W j k'∨(j=i∧k'=k)) I (A.set (nodeAt g i).info.toNat ((A.getD (nodeAt g i).info.toNat []).set k (iM g m i k))):=by
 obtain⟨a1,a2,a3⟩:=G.inf i hi hk;have hlt:(nodeAt g i).info.toNat<A.length:=by rw[h.la];omega
 have hls:=h.ls (nodeAt g i).info.toNat (by omega);rw[show(((nodeAt g i).info.toNat:Nat):Int)=(nodeAt g i).info by omega,a3] at hls;refine⟨h.li,by rw[Al];exact h.la,fun s hs=>?_,h.iv,h.iw,h.lk,fun j k' hj hk' hv=>?_⟩
 ·rw[qE hlt];split
  ·rename_i e;rw[Al,e];exact h.ls s hs
  ·exact h.ls s hs
 ·have key:(nodeAt g j).kind=2→((A.set (nodeAt g i).info.toNat ((A.getD (nodeAt g i).info.toNat []).set k (iM g m i k))).getD (nodeAt g j).info.toNat []).getD k' 0=if(nodeAt g j).info=(nodeAt g i).info∧k=k' then iM g m i k else(A.getD (nodeAt g j).info.toNat []).getD k' 0:=fun hkj=>by
   obtain⟨b1,b2,b3⟩:=G.inf j hj hkj;rw[qE hlt];by_cases e:(nodeAt g j).info=(nodeAt g i).info
   ·rw[if_pos (by rw[e]),kR (by omega),e];by_cases e2:k=k'
    ·rw[if_pos e2,if_pos ⟨rfl,e2⟩]
    ·rw[if_neg e2,if_neg (fun h=>e2 h.2)]
   ·rw[if_neg (by omega),if_neg (fun h=>e h.1)]
  rcases hv with hv | ⟨rfl,rfl⟩
  ·obtain⟨c1,c2,c3⟩:=h.kd j k' hj hk' hv;refine⟨c1,c2,fun hkj=>?_⟩;rw[key hkj];split
   ·rename_i e;obtain⟨e1,rfl⟩:=e;have:=c3 hkj;rw[←hA j hj hv hkj e1,←e1];exact this
   ·exact c3 hkj
  ·exact⟨h0,hw,fun hkj=>by rw[key hkj,if_pos ⟨rfl,rfl⟩]⟩
theorem aG7{i:Nat}(hi:i<g.nodes.length)(h:¬aAS g m i):¬fT g m:=fun a=>h (a.like i hi)
theorem aKy{i k:Nat}(hi:i<g.nodes.length)(hk:k<(nodeAt g i).next.length)(h:¬0≤iM g m i k):¬fT g m:=fun a=>h (a.kid i k hi hk)
theorem aEy{i k:Nat}(hi:i<g.nodes.length)(hk:k<(nodeAt g i).next.length)(h:¬yJ g m i k):¬fT g m:=fun a=>h (a.weigh i k hi hk)
theorem Seen.no_info(h:Seen g m V W I A)(G:fC g){i:Nat}(hi:i<g.nodes.length)(hk:(nodeAt g i).kind=2)(h0:0≤I.getD (nodeAt g i).info.toNat 0)(h1:I.getD (nodeAt g i).info.toNat 0≠(nodeAt g (eB m i)).info):¬fT g m:=fun a=>by
 obtain⟨a1,a2,a3⟩:=G.inf i hi hk;obtain⟨j,b1,b2,b3,b4⟩:=h.iw _ (by omega) h0;have e:(nodeAt g j).info=(nodeAt g i).info:=by omega
 have:=h.iv j b1 b2 b3;rw[e] at this;exact h1 (this.trans (a.info j i b1 hi b3 hk e).1)
theorem Seen.no_act(h:Seen g m V W I A)(G:fC g){i j k:Nat}(hi:i<g.nodes.length)(hj:j<g.nodes.length)(hk:(nodeAt g i).kind=2)(hkj:(nodeAt g j).kind=2)(e:(nodeAt g j).info=(nodeAt g i).info)(hkl:k<(nodeAt g i).next.length)(hW:W j k)(h1:(A.getD (nodeAt g i).info.toNat []).getD k 0≠iM g m i k):¬fT g m:=fun a=>by
 have a3:=(G.inf i hi hk).2.2;have b3:=(G.inf j hj hkj).2.2;rw[e,a3] at b3;have:=(h.kd j k hj (by omega) hW).2.2 hkj;rw[e] at this;exact h1 (this.trans ((a.info j i hj hi hkj hk e).2 k (by omega)))
theorem Seen.no_inj(h:Seen g m (fun _=>True) W I A)(G:fC g){a b:Nat}(ha:a<g.infos.length)(hb:b<g.infos.length)(hab:b≠a)(he:I.getD a 0=I.getD b 0):¬fT g m:=fun u=>by
 obtain⟨f1,f2,f3⟩:=G.fst a ha;obtain⟨e1,e2,e3⟩:=G.fst b hb;have ia:=h.iv _ f1 trivial f2;have ib:=h.iv _ e1 trivial e2;rw[f3,Bf] at ia;rw[e3,Bf] at ib;have:=u.inj _ _ f1 e1 f2 e2 (by rw[←ia,←ib,he]);omega
theorem Seen.inj(h:Seen g m (fun _=>True) W I A)(G:fC g)(hd:∀a b,b<a→a<g.infos.length→I.getD a 0≠I.getD b 0):∀i j,i<g.nodes.length→j<g.nodes.length→(nodeAt g i).kind=2→(nodeAt g j).kind=2→(nodeAt g (eB m i)).info=(nodeAt g (eB m j)).info→(nodeAt g i).info=(nodeAt g j).info:=fun i j hi hj hki hkj e=>by
 obtain⟨a1,a2,_⟩:=G.inf i hi hki;obtain⟨b1,b2,_⟩:=G.inf j hj hkj;have ia:=h.iv i hi trivial hki;have ib:=h.iv j hj trivial hkj;rcases Eu (nodeAt g i).info.toNat (nodeAt g j).info.toNat with h1 | h1 | h1
 ·exact absurd (by rw[ia,ib,e]) (hd _ _ h1 (by omega))
 ·omega
 ·exact absurd (by rw[ia,ib,e]) (hd _ _ h1 (by omega))
theorem Seen.auto(h:Seen g m (fun _=>True) (fun _ _=>True) I A)(G:fC g)(root:m.getD 0 0=0)(inj:∀i j,i<g.nodes.length→j<g.nodes.length→(nodeAt g i).kind=2→(nodeAt g j).kind=2→(nodeAt g (eB m i)).info=(nodeAt g (eB m j)).info→(nodeAt g i).info=(nodeAt g j).info):fT g m:=by
 refine⟨root,fun i hi=>h.lk i hi trivial,fun i k hi hk=>(h.kd i k hi hk trivial).1,fun i k hi hk=>(h.kd i k hi hk trivial).2.1,fun i j hi hj hki hkj e=>⟨?_,fun k hk=>?_⟩,inj⟩
 ·rw[←h.iv i hi trivial hki,←h.iv j hj trivial hkj,e]
 ·have a3:=(G.inf i hi hki).2.2;have b3:=(G.inf j hj hkj).2.2;rw[←e,a3] at b3;rw[← (h.kd i k hi hk trivial).2.2 hki,← (h.kd j k hj (by omega) trivial).2.2 hkj,e]
theorem Seen.imgI(h:Seen g m (fun _=>True) W I A)(G:fC g):I=imgI g m:=by
 refine aCc (by rw[h.li];simp [Gl.imgI]) fun s hs=>?_;have hs:s<g.infos.length:=by simpa [Gl.imgI] using hs
 obtain⟨f1,f2,f3⟩:=G.fst s hs;have:=h.iv _ f1 trivial f2;rw[f3] at this;rw[show((s:Int)).toNat=s by omega] at this;rw[this];unfold Gl.imgI;rw[Ad,Az,Cn hs];rfl
theorem Seen.imgA(h:Seen g m V (fun _ _=>True) I A)(G:fC g):A=imgA g m:=by
 refine List.ext_getElem? fun s=>?_;by_cases hs:s<g.infos.length
 ·obtain⟨f1,f2,f3⟩:=G.fst s hs;have a3:=(G.inf _ f1 f2).2.2;have hl:=h.ls s hs;rw[f3] at a3;unfold Gl.imgA;rw[Az,Cn hs,Ac (show s<A.length by rw[h.la];exact hs)];have hA:A[s]'(by rw[h.la];exact hs)=A.getD s []:=by rw[Ad,Ac (show s<A.length by rw[h.la];exact hs)];rfl
  rw[hA];show some _=some _;congr 1;refine aCc (by simp only[Bc,Db];omega) fun k hk=>?_;have hk:k<(nodeAt g (iS g s)).next.length:=by simpa using hk
  have:=(h.kd _ k f1 hk trivial).2.2 f2;rw[f3,show((s:Int)).toNat=s by omega] at this;rw[this,Ad,Az,Cn hk];rfl
 ·rw[Ch (by rw[h.la];omega),Ch (by simp [Gl.imgA];omega)]
end
def oD(b:Nat)(l:List Int):AV:=.sl b 0 l.length l.length false
structure vM(S0 X:St)(bs:Nat→Nat)(cs:List AV)(A:List (List Int)):Prop where
 cl:∀j,j<A.length→cs[j]? =some (oD (bs j) (A.getD j []))
 bl:∀j,j<A.length→S0.nx≤bs j∧bs j<X.nx∧X.h.get (bs j)=some (.cells (bC (A.getD j [])) false 0)
 dj:∀j k,j<A.length→k<A.length→j≠k→bs j≠bs k
section
variable {S0 X X':St}{bs:Nat→Nat}{cs:List AV}{A:List (List Int)}
theorem vM.move(h:vM S0 X bs cs A)(hn:X.nx≤X'.nx)(hh:∀j,j<A.length→X'.h.get (bs j)=X.h.get (bs j)):vM S0 X' bs cs A:=
 ⟨h.cl,fun j hj=>by obtain⟨a,b,c⟩:=h.bl j hj;exact⟨a,Ae b hn,(hh j hj).trans c⟩,h.dj⟩
theorem vM.same(h:vM S0 X bs cs A)(hs:Same X X'):vM S0 X' bs cs A:=h.move hs.1 fun j hj=>hs.2 _ (h.bl j hj).2.1
theorem vM.none:vM S0 X bs cs []:=⟨fun j hj=>absurd hj (Ce j),fun j hj=>absurd hj (Ce j),fun j k hj=>absurd hj (Ce j)⟩
theorem uV{l:List (List Int)}{x:List Int}{j:Nat}:(l++ [x]).getD j []=if j=l.length then x else l.getD j []:=by
 rw[Ad,Ad];by_cases h:j<l.length
 ·rw[Ba h,if_neg (by omega)]
 ·rw[Av (by omega)];by_cases e:j=l.length
  ·rw[if_pos e,e,Dr];rfl
  ·rw[if_neg e,Ch (by simp;omega),Ch (by omega)]
theorem vM.add(h:vM S0 X bs cs A){nb:Nat}{l:List Int}{cs':List AV}(h0:S0.nx≤nb)(h1:nb<X.nx)(hg:X.h.get nb=some (.cells (bC l) false 0))(hne:∀j,j<A.length→bs j≠nb)(hc:∀j,j<A.length→cs'[j]? =cs[j]?)(hl:cs'[A.length]? =some (oD nb l)):vM S0 X (fun j=>if j=A.length then nb else bs j) cs' (A++ [l]):=by
 refine⟨fun j hj=>?_,fun j hj=>?_,fun j k hj hk hjk=>?_⟩
 ·rw[Ak,Bz] at hj;rw[uV];try simp only
  by_cases e:j=A.length
  ·rw[if_pos e,if_pos e,e];exact hl
  ·rw[if_neg e,if_neg e,hc j (by omega)];exact h.cl j (by omega)
 ·rw[Ak,Bz] at hj;rw[uV];try simp only
  by_cases e:j=A.length
  ·rw[if_pos e,if_pos e];exact⟨h0,h1,hg⟩
  ·rw[if_neg e,if_neg e];exact h.bl j (by omega)
 ·rw[Ak,Bz] at hj hk;try simp only
  by_cases e:j=A.length
  ·rw[if_pos e,if_neg (by omega)];exact Co (hne k (by omega))
  ·rw[if_neg e];by_cases e2:k=A.length
   ·rw[if_pos e2];exact hne j (by omega)
   ·rw[if_neg e2];exact h.dj j k (by omega) (by omega) hjk
theorem vM.put(h:vM S0 X bs cs A){s k:Nat}{v:Int}(hs:s<A.length){n:Nat}(hn:X.nx≤n):vM S0 ⟨X.h.set (bs s) (some (.cells (bC ((A.getD s []).set k v)) false 0)),n⟩ bs cs (A.set s ((A.getD s []).set k v)):=by
 refine⟨fun j hj=>?_,fun j hj=>?_,fun j k hj hk=>?_⟩
 ·rw[Al] at hj;rw[qE hs,h.cl j hj];split
  ·rename_i e;unfold oD;rw[Al,e]
  ·rfl
 ·rw[Al] at hj;rw[qE hs];obtain⟨a,b,c⟩:=h.bl j hj;refine⟨a,Ae b hn,?_⟩;try simp only
  rw[T.get_set];by_cases e:s=j
  ·rw[if_pos e,if_pos (by rw[e])]
  ·rw[if_neg e,if_neg (h.dj j s hj hs (Co e))];exact c
 ·rw[Al] at hj hk;exact h.dj j k hj hk
theorem vM.is(h:vM S0 X bs cs A){ob cap sz:Nat}{o o':Bool}(hob:X.h.get ob=some (.cells cs o sz))(lt:ob<X.nx)(hc:A.length≤cap):aN 1 kJ X (.sl ob 0 A.length cap o') A:=by
 refine .inr ⟨ob,0,cap,o',cs,rfl,hc,lt,by unfold cS;rw[hob];rfl,fun i l hi=>?_⟩;have hlt:=(Ai.1 hi).1;have e:A.getD i []=l:=by rw[Ad,hi];rfl
 have h1:=h.cl i hlt;obtain⟨_,h3,h4⟩:=h.bl i hlt;rw[e] at h1 h4;refine⟨[oD (bs i) l],rfl,fun j x hj=>?_,_,rfl,aBg h4 h3 rfl⟩;cases j with
 | zero=>
  cases hj;rw[An,Dn,Bj];exact h1
 | succ j=>simp at hj
end
theorem jZ.push1{bytes t n:Nat}{S0 S:St}{v x:AV}{cs:List AV}(h:jZ 1 S0 S v n cs)(hS:Same S0 S)(ht:S.h.get t=some (.cells [x] false 0))(h1:n+1≤room)(h2:(n+1) * bytes≤room):
  ∃v' S',iN bytes 1 v (.sl t 0 1 1 false) S=some (v',S')∧jZ 1 S0 S' v' (n+1) (cs++ [x])∧cL v'=some S.nx∧S'.nx=S.nx+1∧∀c,c<S.nx→cL v≠some c→S'.h.get c=S.h.get c:=by
 have hs:=aLi ht;rcases h with⟨rfl,rfl,rfl⟩ | ⟨b,rfl,hb0,hb,hg,hc⟩
 ·refine⟨.sl S.nx 0 1 1 true,⟨S.h.set S.nx (some (.cells [x] true 1)),S.nx+1⟩,?_,.inr ⟨S.nx,by rw[An],hS.1,by simp,?_,?_⟩,rfl,rfl,fun c hc _=>(Same.alloc S _).2 c hc⟩
  ·show(aZ (some 1) fun j=>aZ (fP (.sl t 0 1 1 false) S.h 1 j) fun new=>aDN .nilsl bytes 1 j new S)=_;rw[aT,hs,aT];show uC bytes 1 1 [x] S=_;unfold uC;rw[show Nat.beq 1 0=false from rfl,aV,Am (by omega),aQ,Am (by rw[An] at h2;exact h2),aQ];rfl
  ·simp only;rw[T.get_set,if_pos rfl];rfl
  ·rfl
 ·refine⟨.sl S.nx 0 (n+1) (n+1) true,⟨(S.h.set b none).set S.nx (some (.cells (cs++ [x]) true 1)),S.nx+1⟩,?_,.inr ⟨S.nx,rfl,hS.1,by simp,?_,by rw[Ak,hc,Bz,Et,Nat.one_mul]⟩,rfl,rfl,fun c hc hne=>?_⟩
  ·show(aZ (some 1) fun j=>aZ (fP (.sl t 0 1 1 false) S.h 1 j) fun new=>aDN (.sl b 0 n n true) bytes 1 j new S)=_;rw[aT,hs,aT];show vT bytes 1 b 0 n n true 1 [x] S=_;unfold vT;have e2:Nat.ble (n+1) n=false:=by rw[Dh];intro h;have:=Aw h;omega
   rw[e2,aV,Am h1,aQ,Am h2,aQ,hg,aT];have e3:cut cs 0 (n * 1)=some cs:=by
    unfold cut;rw[jX,kU,Dj,if_pos (by omega),Ax (by omega)]
   have e4:Nat.beq (0+n * 1) (jN cs)=true:=by rw[dV,hc,Bd];omega
   simp only[aEx,e3,aT,aQ,e4,show Nat.beq 1 1=true from rfl,grown,fK]
  ·simp only;rw[T.get_set,if_pos rfl]
  ·simp only;have:c≠b:=fun e=>hne (by rw[e];rfl);rw[T.get_set,if_neg (by omega),T.get_set,if_neg this]
theorem aM6{t b n c:Nat}{o:Bool}{z:AV}{x:cJ}{F:Fr}{id:Nat}(hx:x.val F= .sl b 0 n c o):vG (.bslice t 1 1 [z] [(0,x)]) F id=some (.sl id 0 1 1 false,.cells [.sl b 0 n c o] false 0):=by
 show(aZ (gH (repeatL [z] 1) [(0 * 1,1,x.val F)]) fun cs=>some (AV.sl id 0 1 1 false,AB.cells cs false 0))=_;rw[hx];rfl
theorem jZ.move{k n:Nat}{S0 S S':St}{v:AV}{cs:List AV}(h:jZ k S0 S v n cs)(hn:S.nx≤S'.nx)(hh:∀c,cL v=some c→S'.h.get c=S.h.get c):jZ k S0 S' v n cs:=by
 rcases h with h | ⟨b,rfl,h2,h3,h4,h5⟩
 ·exact .inl h
 ·exact .inr ⟨b,rfl,h2,Ae h3 hn,(hh b rfl).trans h4,h5⟩
theorem jZ.csl{k n:Nat}{S0 S:St}{v:AV}{cs:List AV}(h:jZ k S0 S v n cs):cs.length=n * k:=by
 rcases h with⟨_,rfl,rfl⟩ | ⟨b,_,_,_,_,h5⟩
 ·rw[Fi];rfl
 ·exact h5
theorem bN.place{k:IntKind}{S:St}{v:AV}{l:List Int}(h:bN k S v l){i:Nat}(hi:i<l.length):∃b p,aAn v i= .ptr b p∧b<S.nx:=by
 rcases h with⟨h0,_⟩ | ⟨b,off,cap,o,cs,rfl,_,hb,_⟩
 ·rw[h0] at hi;exact absurd hi (Ce _)
 ·exact⟨b,_,rfl,hb⟩
theorem aE0{h:Ev.T AB}{a b s s':Nat}{cs cs':List AV}(ha:h.get a=some (.cells cs false s))(hb:h.get b=some (.cells cs' true s')):a≠b:=fun e=>by
 rw[e,hb] at ha;obtain⟨_,h2,_⟩:=AB.cells.inj (Bk ha);cases h2
theorem aGX{W:Nat→Prop}{h0:Ev.T AB}{base:Nat}{F:Fr}{S:St}{Q:Fr→St→List iV→Prop}{i a b n m1 m2 j1 j2:Nat}{z cx cy:List AV}{t1 t2 u1 u2:cJ}(ht1:Nat.testBit m1 j1=true)(ht2:Nat.testBit m1 j2=true)(hm2:kV (some i) m2=true)
  (h1:t1.val F= .ptr a 0) (h2:t2.val F= .ptr b 0) (hu1:(u1.val F).cells=some cx) (hu2:(u2.val F).cells=some cy) (lz:z.length=n) (lx:cx.length=n) (ly:cy.length=n) (hab:a≠b) (hba:base≤a) (hbb:base≤b)
  (hr:∀S',S'.nx=S.nx→S'.h.get a=some (.cells cx false 0)→S'.h.get b=some (.cells cy false 0)→(∀c,c≠a→c≠b→S'.h.get c=S.h.get c)→Q F S' []):
  fQ fns W h0 base [⟨none,.x (.st n t1 u1),none,m1⟩,⟨none,.x (.st n t2 u2),none,m2⟩] i F S [⟨j2,b,.cells z false 0⟩,⟨j1,a,.cells z false 0⟩] none Q:=by
 have hf:cH m1 [⟨j2,b,.cells z false 0⟩,⟨j1,a,.cells z false 0⟩] S.h=([],(S.h.set b (some (.cells z false 0))).set a (some (.cells z false 0))):=by rw[fH ht2,fH ht1,cK]
 have hg1:((S.h.set b (some (.cells z false 0))).set a (some (.cells z false 0))).get a=some (.cells z false 0):=by rw[T.get_set,if_pos rfl]
 have x1:=aA2 (S:=⟨(S.h.set b (some (.cells z false 0))).set a (some (.cells z false 0)),S.nx⟩) (cs':=cx) (n:=n) hg1 lz lx;refine xK (S1:=⟨((S.h.set b (some (.cells z false 0))).set a (some (.cells z false 0))).set a (some (.cells cx false 0)),S.nx⟩) rfl ?_ ?_ ?_
 ·rw[hf,h1,hu1,aT];exact x1
 ·rw[hf];exact⟨Ah _,fun c hc _=>by simp only;rw[T.get_set,if_neg (by omega)]⟩
 rw[hf];have hg2:(((S.h.set b (some (.cells z false 0))).set a (some (.cells z false 0))).set a (some (.cells cx false 0))).get b=some (.cells z false 0):=by rw[T.get_set,if_neg (Co hab),T.get_set,if_neg (Co hab),T.get_set,if_pos rfl]
 have x2:=aA2 (S:=⟨((S.h.set b (some (.cells z false 0))).set a (some (.cells z false 0))).set a (some (.cells cx false 0)),S.nx⟩) (cs':=cy) (n:=n) hg2 lz ly;refine xK (S1:=⟨(((S.h.set b (some (.cells z false 0))).set a (some (.cells z false 0))).set a (some (.cells cx false 0))).set b (some (.cells cy false 0)),S.nx⟩) hm2 ?_ ?_ ?_
 ·rw[cK];show aZ (u2.val F).cells (fun cs=>lK (t2.val F) n cs _)=_;rw[h2,hu2,aT];exact x2
 ·rw[cK];exact⟨Ah _,fun c hc _=>by simp only;rw[T.get_set,if_neg (by omega)]⟩
 rw[cK];refine hr _ rfl ?_ ?_ fun c hc1 hc2=>?_
 ·simp only;rw[T.get_set,if_neg hab,T.get_set,if_pos rfl]
 ·simp only;rw[T.get_set,if_pos rfl]
 ·simp only;rw[T.get_set,if_neg hc2,T.get_set,if_neg hc1,T.get_set,if_neg hc1,T.get_set,if_neg hc2]
theorem jZ.low{k n:Nat}{S S1 X:St}{v:AV}{cs:List AV}(h:jZ k S1 X v n cs)(hs:S.nx≤S1.nx):jZ k S X v n cs:=by
 rcases h with h | ⟨b,h1,h2,h3⟩
 ·exact .inl h
 ·exact .inr ⟨b,h1,Ay hs h2,h3⟩
theorem vM.low{S S1 X:St}{bs:Nat→Nat}{cs:List AV}{A:List (List Int)}(h:vM S1 X bs cs A)(hs:S.nx≤S1.nx):vM S X bs cs A:=⟨h.cl,fun j hj=>by obtain⟨a,b⟩:=h.bl j hj;exact⟨Ay hs a,b⟩,h.dj⟩
def xL(g:aW):List (List Int):=g.infos.map fun x=>List.replicate x.actions.toNat 0
def aOk(S1:St)(gb:Nat)(mv:AV)(g:aW)(k:Nat)(A:bH)(X:St):Prop:=A.inr=false∧Same S1 X∧∃i v w cs bs,i+k=g.infos.length∧jZ 1 S1 X v i (bC (List.replicate i (-1)))∧jZ 1 S1 X w i cs∧vM S1 X bs cs ((xL g).take i)∧(∀c,cL v=some c→cL w≠some c)∧aD 1 A.F=mv∧aD 2 A.F= .ptr gb 0∧aD 4 A.F=v∧aD 5 A.F=w∧aD 7 A.F= .int .i64 (i:Int)
theorem aOe{g:aW}{m:List Int}(G:fC g):Seen g m (fun j=>j<0) (fun j _=>j<0) (List.replicate g.infos.length (-1)) (xL g):=by
 refine⟨Ao ..,by unfold xL;rw[Bc],fun s hs=>?_,fun j _ hj=>by omega,fun s hs h0=>?_,fun j _ hj=>by omega,fun j k _ _ hj=>by omega⟩
 ·obtain⟨f1,f2,f3⟩:=G.fst s hs;have hac:=(G.inf _ f1 f2).2.2;rw[f3] at hac;have e:(xL g).getD s []=List.replicate (infoAt g (s:Int)).actions.toNat 0:=by
   unfold xL infoAt;rw[Ad,Az,Ad,Bf,Ac hs];rfl
  rw[e,Ao];omega
 ·rw[Ad,Cx,if_pos hs] at h0;exact absurd h0 (by decide)
def aOb(S1:St)(gb:Nat)(mv v w:AV)(cs:List AV)(bs:Nat→Nat)(g:aW)(m:List Int)(k:Nat)(A:bH)(X:St):Prop:=A.inr=false∧Same S1 X∧∃i I As,i+k=g.nodes.length∧jZ 1 S1 X v g.infos.length (bC I)∧jZ 1 S1 X w g.infos.length cs∧vM S1 X bs cs As∧Seen g m (fun j=>j<i) (fun j _=>j<i) I As∧aD 1 A.F=mv∧aD 2 A.F= .ptr gb 0∧aD 4 A.F=v∧aD 5 A.F=w∧aD 8 A.F= .int .i64 (i:Int)
theorem vE{h:Ev.T AB}{b p sz:Nat}{l:List Int}{o:Bool}(hb:h.get b=some (.cells (bC l) o sz))(hp:p<l.length):dT (.ptr b p) false 1 h=some (.int .i64 (l.getD p 0)):=fN hb (by
 unfold bC;rw[Az,Ac hp,Ad,Ac hp];rfl)
theorem mE{k:IntKind}{x:Int}(h:0≤x):eR (.int k x)=some x.toNat:=by
 obtain⟨n,rfl⟩:∃n:Nat,x=(n:Int):=⟨x.toNat,by omega⟩;rw[Bf];exact aE ..
def jU(F:Fr)(gb xb yb:Nat)(mv v w:AV)(i:Nat):Prop:=aD 1 F=mv∧aD 2 F= .ptr gb 0∧aD 4 F=v∧aD 5 F=w∧aD 8 F= .int .i64 (i:Int)∧aD 9 F= .ptr xb 0∧aD 10 F= .ptr yb 0
theorem pM{x0 x1 x2:Int}{a b c:AV}{k:IntKind}(ha:cB a a=true)(hb:cB b b=true)(hc:cB c c=true):cB (.agg [.int k x0,.int k x1,.int k x2,a,b,c]) (.agg [.int k x0,.int k x1,.int k x2,a,b,c])=true:=zM (dJ ..) (dJ ..) (dJ ..) ha hb hc
theorem aG8{g:aW}{m:List Int}{i k:Nat}(h:0≤iM g m i k):(iM g m i k).toNat<(nodeAt g (eB m i)).next.length:=by
 unfold iM at h ⊢;rcases lS (c:=m.getD ((nodeAt g i).next.getD k 0).toNat 0) (l:=(nodeAt g (eB m i)).next) (s:=0) with⟨h1,_⟩ | ⟨j,h1,h2,_⟩
 ·rw[h1] at h;exact absurd h (by decide)
 ·rw[h1];have:=(Ai.1 h2).1;omega
def aNv(S1:St)(gb xb yb:Nat)(mv v w:AV)(cs:List AV)(bs:Nat→Nat)(g:aW)(m:List Int)(i:Nat)(kn:Bool)(cx cy:Option AB)(k:Nat)(A:bH)(X:St):Prop:=A.inr=false∧Same S1 X∧xb<X.nx∧yb<X.nx∧∃kk I As,kk+k=(nodeAt g i).next.length∧jZ 1 S1 X v g.infos.length (bC I)∧jZ 1 S1 X w g.infos.length cs∧vM S1 X bs cs As∧Seen g m (fun j=>j<i∨j=i) (fun j k'=>j<i∨(j=i∧k'<kk)) I As∧jU A.F gb xb yb mv v w i∧X.h.get xb=cx∧X.h.get yb=cy∧aD 11 A.F= .bool kn∧aD 12 A.F= .int .i64 (kk:Int)
def aNG(X0:St)(v w:AV)(I:List Int)(n k:Nat)(A:bH)(X:St):Prop:=A.inr=false∧Same X0 X∧∃i,i+k=n∧(∀a b,b<a→a<i→I.getD a 0≠I.getD b 0)∧aD 4 A.F=v∧aD 5 A.F=w∧aD 14 A.F= .int .i64 (i:Int)
def aOq(X0:St)(v w:AV)(I:List Int)(i k:Nat)(A:bH)(X:St):Prop:=A.inr=false∧Same X0 X∧∃l,l+k=i∧(∀b,b<l→I.getD i 0≠I.getD b 0)∧aD 4 A.F=v∧aD 5 A.F=w∧aD 14 A.F= .int .i64 (i:Int)∧aD 15 A.F= .int .i64 (l:Int)
def aBt(S1:St)(g:aW)(m:List Int)(A:bH)(X:St):Prop:=Same S1 X∧¬fT g m∧aD 4 A.F= .nilsl∧aD 5 A.F= .nilsl∧aD 6 A.F= .bool false
def aNI(g:aW)(m:List Int)(S S':St)(x y:AV):Prop:=jZ 1 S S' x g.infos.length (bC (imgI g m))∧∃cs bs,jZ 1 S S' y g.infos.length cs∧vM S S' bs cs (imgA g m)
theorem uE{S:St}{nv iv mv:AV}{g:aW}{m:List Int}(H:Has fns)(hn:aN 6 bT S nv g.nodes)(hi:aN 2 cV S iv g.infos)(hm:bN .i64 S mv m)(G:fC g)(M:xI g m):
  fA fns (.fn 33 [] []) [.agg [.int .i64 g.players,nv,iv],mv] S fun r S'=>Same S S'∧∃a b t,r= .tup [a,b,.bool t]∧(t=true↔fT g m)∧(t=true→aNI g m S S' a b):=by
 have hml:0<m.length:=by rw[M.len];exact G.n1
 have hN:=G.n2;have hNI:=G.ni;refine bP H.f33 (by simp) ?_;simp only[↓sU,sD,rE,↓reduceIte,rA];refine bE ?_;refine dG (by simp only[↓sU,sD,rE,↓reduceIte,rA];exact bJ _) ?_;intro S1 s1 n1 c1;simp only[↓sU,sD,rE,↓reduceIte,rA];have lg1:S.nx<S1.nx:=by omega
 have hm1:=hm.same s1;have ia0:=hm1.iaddr hml;have la0:=hm1.ld hml;refine eG ?_;simp only[↓sU,sD,rE,↓reduceIte,rA,aIR,ia0,la0];by_cases h0:m.getD 0 0=0;rotate_left
 ·refine aM (by simp only[↓sU,sD,rE,↓reduceIte,rA,Ab (show m.getD 0 0≠0 from h0)]) ?_;refine bE ?_;simp only[↓sU,sD,rE,↓reduceIte,rA];refine aO ?_;simp only[↓sU,sD,rE,↓reduceIte,rA];exact⟨s1,_,_,false,rfl,⟨fun h=>(by cases h),fun a=>absurd a.root h0⟩,fun h=>by cases h⟩
 refine aK (by simp only[↓sU,sD,rE,↓reduceIte,rA,Aa (show ¬m.getD 0 0≠0 from fun h=>h h0)]) (aI ?_);try simp only[↓sU,sD,rE,↓reduceIte,rA]
 refine aA (aS (Q:=fun o A' X=>o= .normal∧aOk S1 S.nx mv g 0 A' X) (aA (aF ?_)) ?_)
 ·simp only[↓sU,sD,rE,↓reduceIte,rA];refine aJ (bB (aOk S1 S.nx mv g) ?_ g.infos.length _ _ ⟨rfl,Same.refl _,0,.nilsl,.nilsl,[],fun _=>0,by omega,.inl ⟨rfl,rfl,rfl⟩,.inl ⟨rfl,rfl,rfl⟩,vM.none,(fun c hc=>by cases hc),by refine⟨?_,?_,?_,?_,?_⟩<;>simp only[↓sU,sD,rE,↓reduceIte,rA]⟩);rintro k ⟨F,inr⟩ X ⟨q0,hX,i,v,w,cs,bs,hik,gv,gw,hR,hvw,p1,p2,p4,p5,p7⟩;simp only at q0 p1 p2 p4 p5 p7;subst q0;have lgX:S.nx<X.nx:=Ae lg1 hX.1;have cX:X.h.get S.nx=some (.cells [.int .i64 g.players,nv,iv] false 0):=by rw[hX.2 _ lg1];exact c1
  refine eG ?_;simp only[↓sU,sD,rE,↓reduceIte,rA,p2,p7,aH,aG,lB cX,hi.len];by_cases hlt:i<g.infos.length
  ·refine aM (by simp only[↓sU,sD,rE,↓reduceIte,rA,Ab (show(i:Int)<((g.infos.length:Nat):Int) by omega)]) (aI ?_);try simp only[↓sU,sD,rE,↓reduceIte,rA]
   obtain⟨f1,f2,f3⟩:=G.fst i hlt;have hac:=(G.inf _ f1 f2).2.2;rw[f3] at hac;obtain⟨e,b,q,hian,hb,he,heq,_,hlf⟩:=aN.at hi (by decide) (Ac hlt);have hia':g.infos[i]=infoAt g (i:Int):=by unfold infoAt;rw[Ad,Bf,Ac hlt];rfl
   unfold cV at heq;subst heq;have hl1:=hlf 1 _ rfl;rw[hia',hac] at hl1;rw[←jO (s1.trans hX) hb] at hl1;have hnl:(nodeAt g (iS g i)).next.length≤1000:=G.nxt _ f1;generalize hna:(nodeAt g (iS g i)).next.length=na at *;have hgW:¬ (cL v=some S.nx∨cL w=some S.nx):=by
    rintro(h | h)
    ·have:=(gv.blk h).1;omega
    ·have:=(gw.blk h).1;omega
   have hbW:¬ (cL v=some b∨cL w=some b):=by
    rintro(h | h)
    ·have:=(gv.blk h).1;omega
    ·have:=(gw.blk h).1;omega
   have lbX:b<X.nx:=by omega
   have ev28:∀ (F:Fr) (id:Nat),vG (.bslice 3 1 1 [.int .i64 0] [(0,.c (.int .i64 (.negSucc 0)))]) F id=some (.sl id 0 1 1 false,.cells [.int .i64 (-1)] false 0):=fun F id=>aA9 rfl;have w1:IntKind.i64.wrap ((i:Int)+1)=((i+1:Nat):Int):=by rw[wrap_i64 (by omega) (by omega)];omega
   refine aA (aJ (qS (fun c=>cL v=some c∨cL w=some c) ?_));have sB:Same X ⟨X.h.set (X.nx+1) (some (.cells [.int .i64 (-1)] false 0)),X.nx+15⟩:=⟨by simp,fun c hc=>by simp only;rw[T.get_set,if_neg (by omega)]⟩;obtain⟨v',S2,eA,gA,bA,nA,rA⟩:=jZ.push1 (bytes:=8) (t:=X.nx+1) (x:=.int .i64 (-1)) (gv.step sB) (hX.trans sB) (by simp only;rw[T.get_set,if_pos rfl]) (by unfold room;omega) (by unfold room;omega);simp only at bA nA rA;simp only[↓sU,sD,rE,↓reduceIte,rA,p4,ev28];refine aFa (r:=v') (S1:=S2) rfl ?_ ?_ ?_
   ·rw[mU (show Nat.testBit 3 1=true by decide)];simp only[↓sU,sD,rE,↓reduceIte,rA];exact eA
   ·rw[mU (show Nat.testBit 3 1=true by decide)];exact⟨by simp only;omega,fun c hc hw=>rA c (by omega) fun e=>hw (.inl e)⟩
   rw[mU (show Nat.testBit 3 1=true by decide)];have siv:=aN.self hi;simp only[↓sU,sD,rE,↓reduceIte,rA,p2,p5,p7,aH,aX,aG,lB cX,lgX,hgW,Aq,siv,aE,hian,hl1,lbX,hbW];refine nI (n:=na) (by simp only[↓sU,sD,rE,↓reduceIte,rA,aE]) (by simp only[↓sU,sD,rE,↓reduceIte,rA,aE]) (by unfold room;omega) (by unfold room;omega) ?_;simp only[↓sU,sD,rE,↓reduceIte,rA];rw[aM6 (b:=X.nx+10) (n:=na) (c:=na) (o:=false) (by simp only[↓sU,sD,rE,↓reduceIte,rA]),nE];have hA0:((xL g).take i).length=i:=by unfold xL;rw[Ca,Bc];omega
   have hA1:(xL g).take (i+1)=(xL g).take i++ [List.replicate na 0]:=by
    rw[Bi];congr 1;unfold xL;rw[Az,Ac hlt,hia'];show [List.replicate (infoAt g (i:Int)).actions.toNat 0]=_;rw[hac,Bf]
   have hz:repeatL [AV.int .i64 0] na=bC (List.replicate na 0):=lU na;have hm1:∀c,cL v=some c→c<X.nx:=fun c hc=>(gv.blk hc).2.1;have hm2:∀c,cL w=some c→c<X.nx:=fun c hc=>(gw.blk hc).2.1;have hflip:∀c,cL w=some c→cL v≠some c:=fun c h1 h2=>hvw c h2 h1;generalize hX2:(⟨(S2.h.set (X.nx+11) (some (.cells [.sl (X.nx+10) 0 na na false] false 0))).set (X.nx+10) (some (.cells (repeatL [.int .i64 0] na) false 0)),S2.nx⟩:St)=X2;have k2:∀c,c≠X.nx+10→c≠X.nx+11→X2.h.get c=S2.h.get c:=fun c h1 h2=>by rw[←hX2];simp only;rw[T.get_set,if_neg h1,T.get_set,if_neg h2]
   have k10:X2.h.get (X.nx+10)=some (.cells (bC (List.replicate na 0)) false 0):=by rw[←hX2,hz];simp only;rw[T.get_set,if_pos rfl]
   have k11:X2.h.get (X.nx+11)=some (.cells [oD (X.nx+10) (List.replicate na 0)] false 0):=by rw[←hX2];simp only;rw[T.get_set,if_neg (by omega),T.get_set,if_pos rfl];unfold oD;rw[Ao]
   have n2:X2.nx=X.nx+16:=by rw[←hX2];simp only;omega
   have hold2:∀c,c<X.nx→cL v≠some c→X2.h.get c=X.h.get c:=fun c hc hne=>by rw[k2 c (by omega) (by omega),rA c (by omega) hne,sB.2 c hc]
   have sX2:Same S1 X2:=⟨by have:=hX.1;omega,fun c hc=>by rw[hold2 c (by have:=hX.1;omega) (fun e=>by have:=(gv.blk e).1;omega)];exact hX.2 c hc⟩;have gw2:jZ 1 S1 X2 w i cs:=gw.move (by omega) fun c hc=>hold2 c (hm2 c hc) (hflip c hc);obtain⟨w',S3,eW,gB,bW,nW,rW⟩:=jZ.push1 (bytes:=24) gw2 sX2 k11 (by unfold room;omega) (by unfold room;omega);have hold3:∀c,c<X.nx→cL v≠some c→cL w≠some c→S3.h.get c=X.h.get c:=fun c hc h1 h2=>by rw[rW c (by omega) h2,hold2 c hc h1]
   have sX3:Same S1 S3:=⟨by have:=sX2.1;omega,fun c hc=>by rw[rW c (by have:=sX2.1;omega) (fun e=>by have:=(gw.blk e).1;omega)];exact sX2.2 c hc⟩;have gv3:jZ 1 S1 S3 v' (i+1) (bC (List.replicate i (-1))++ [.int .i64 (-1)]):=gA.move (by omega) fun c hc=>by
    rw[bA] at hc;cases hc;rw[rW _ (by omega) (fun e=>by have:=hm2 _ e;omega),k2 _ (by omega) (by omega)]
   have e1:bC (List.replicate i (-1))++ [.int .i64 (-1)]=bC (List.replicate (i+1) (-1)):=by
    rw[List.replicate_succ'];unfold bC;rw[Ej];rfl
   rw[e1] at gv3;have hcl:=gw.csl;have hR3:vM S1 S3 (fun j=>if j=((xL g).take i).length then X.nx+10 else bs j) (cs++ [oD (X.nx+10) (List.replicate na 0)]) ((xL g).take i++ [List.replicate na 0]):=by
    refine vM.add (hR.move (by omega) fun j hj=>?_) (by have:=hX.1;omega) (by omega) ?_ (fun j hj=>?_) (fun j hj=>?_) ?_
    ·obtain⟨_,b2,b3⟩:=hR.bl j hj;exact hold3 _ b2 (gv.off b3) (gw.off b3)
    ·rw[rW _ (by omega) (fun e=>by have:=hm2 _ e;omega)];exact k10
    ·have:=(hR.bl j hj).2.1;omega
    ·rw[Ba (by omega)]
    ·rw[Av (by omega),hA0,show i - cs.length=0 by omega];rfl
   refine aFa (r:=w') (S1:=S3) rfl ?_ ?_ ?_
   ·rw[fH (show Nat.testBit 4095 11=true by decide),fH (show Nat.testBit 4095 10=true by decide),cK,hX2];simp only[↓sU,sD,rE,↓reduceIte,rA];exact eW
   ·rw[fH (show Nat.testBit 4095 11=true by decide),fH (show Nat.testBit 4095 10=true by decide),cK,hX2];exact⟨by omega,fun c hc hw=>rW c (by omega) fun e=>hw (.inr e)⟩
   rw[fH (show Nat.testBit 4095 11=true by decide),fH (show Nat.testBit 4095 10=true by decide),cK];simp only[↓sU,sD,rE,↓reduceIte,rA];refine aF ?_;simp only[↓sU,sD,rE,↓reduceIte,rA,p7,w1];refine⟨k - 1,by omega,rfl,sX3,i+1,v',w',_,_,by omega,gv3,gB,by rw[hA1];exact hR3,fun c h1 h2=>?_,by refine⟨?_,?_,?_,?_,?_⟩<;>simp only[↓sU,sD,rE,↓reduceIte,rA,p1,p2]⟩;rw[bA] at h1;rw[bW] at h2;have h1:=Bk h1;have h2:=Bk h2;omega
  ·refine aK (by simp only[↓sU,sD,rE,↓reduceIte,rA,Aa (show ¬ (i:Int)<((g.infos.length:Nat):Int) by omega)]) (aU ?_);simp only[↓sU,sD,rE,↓reduceIte,rA];have hk0:k=0:=by omega
   subst hk0;exact⟨rfl,hX,i,v,w,cs,bs,hik,gv,gw,hR,hvw,by refine⟨?_,?_,?_,?_,?_⟩<;>simp only[↓sU,sD,rE,↓reduceIte,rA,p1,p2,p4,p5,p7]⟩
 rintro o ⟨F,inr⟩ X ⟨rfl,q0,hX,i,v,w,cs,bs,hik,gv,gw,hR,hvw,p1,p2,p4,p5,p7⟩;simp only at q0 p1 p2 p4 p5;subst q0;clear p7;obtain rfl:i=g.infos.length:=by omega
 have hAl:(xL g).length=g.infos.length:=by unfold xL;rw[Bc]
 rw[Ax (by omega)] at hR;try simp only[↓sU,sD,rE,↓reduceIte,rA]
 refine aA (aS (Q:=fun o A' Y=>(o= .normal∧aOb S1 S.nx mv v w cs bs g m 0 A' Y)∨(o= .ret∧aBt S1 g m A' Y)) (aA (aF ?_)) ?_)
 ·simp only[↓sU,sD,rE,↓reduceIte,rA];refine aJ (bB (aOb S1 S.nx mv v w cs bs g m) ?_ g.nodes.length _ _ ⟨rfl,hX,0,_,_,by omega,gv,gw,hR,aOe G,by refine⟨?_,?_,?_,?_,?_⟩<;>simp only[↓sU,sD,rE,↓reduceIte,rA,p1,p2,p4,p5]⟩);clear p1 p2 p4 p5 gv gw hR hX X;rintro k ⟨F,inr⟩ X ⟨q0,hX,i,I,As,hik,gv,gw,hR,hS,p1,p2,p4,p5,p8⟩;simp only at q0 p1 p2 p4 p5 p8;subst q0;refine eG ?_;simp only[↓sU,sD,rE,↓reduceIte,rA,p1,p8,hm.len,M.len,Ag];by_cases hlt:i<g.nodes.length;rotate_left
  ·refine aK (by simp only[↓sU,sD,rE,↓reduceIte,rA,Aa (show ¬ (i:Int)<((g.nodes.length:Nat):Int) by omega)]) (aU ?_);simp only[↓sU,sD,rE,↓reduceIte,rA];have hk0:k=0:=by omega
   subst hk0;exact .inl ⟨rfl,hX,i,I,As,hik,gv,gw,hR,hS,by refine⟨?_,?_,?_,?_,?_⟩<;>simp only[↓sU,sD,rE,↓reduceIte,rA,p1,p2,p4,p5,p8]⟩
  refine aM (by simp only[↓sU,sD,rE,↓reduceIte,rA,Ab (show(i:Int)<((g.nodes.length:Nat):Int) by omega)]) (aI ?_);try simp only[↓sU,sD,rE,↓reduceIte,rA]
  have lgX:S.nx<X.nx:=Ae lg1 hX.1;have cX:X.h.get S.nx=some (.cells [.int .i64 g.players,nv,iv] false 0):=by rw[hX.2 _ lg1];exact c1
  have sX:=s1.trans hX;have hmX:=hm.same sX;have ia:=hmX.iaddr (show i<m.length by rw[M.len];exact hlt);have la:=hmX.ld (show i<m.length by rw[M.len];exact hlt);obtain⟨hto,htoN⟩:=M.at hlt;rw[hto] at la;obtain⟨_,bx,qx,hiax,hbx,_,⟨xa,xw,xp,rfl,hxa,hxw,hxp⟩,hldx,_⟩:=aN.at hn (by decide) (eC hlt);obtain⟨_,by',qy,hiay,hby,_,⟨ya,yw,yp,rfl,hya,hyw,hyp⟩,hldy,_⟩:=aN.at hn (by decide) (eC htoN);rw[←jO sX hbx] at hldx;rw[←jO sX hby] at hldy;have snv:=aN.self hn;have sx:=pM (k:=.i64) (x0:=(nodeAt g i).kind) (x1:=(nodeAt g i).player) (x2:=(nodeAt g i).info) (bN.self hxa) (bN.self hxw) (bN.self hxp);have sy:=pM (k:=.i64) (x0:=(nodeAt g (eB m i)).kind) (x1:=(nodeAt g (eB m i)).player) (x2:=(nodeAt g (eB m i)).info) (bN.self hya) (bN.self hyw) (bN.self hyp);have lbx:bx<X.nx:=Ae hbx sX.1;have lby:by'<X.nx:=Ae hby sX.1;have lel:∀ {i:Nat},i<m.length→∃b p,aAn mv i= .ptr b p∧b<X.nx:=fun {i} h=>bN.place hmX h;obtain⟨bm,pm,hem,lbm⟩:=lel (show i<m.length by rw[M.len];exact hlt);rw[hem] at ia la;have w1:IntKind.i64.wrap ((i:Int)+1)=((i+1:Nat):Int):=by rw[wrap_i64 (by omega) (by omega)];omega
  refine aA (aJ (aA (qS (fun _=>False) ?_)));simp only[↓sU,sD,rE,↓reduceIte,rA,p1,p2,p8,aH,aX,aG,eF cX,lgX,Aq,snv,aE,hiax,hldx,sx,lbx,ia,la,lbm,hiay,hldy,sy,lby,uW];refine aGX (n:=6) rfl rfl rfl (by simp only[↓sU,sD,rE,↓reduceIte,rA]) (by simp only[↓sU,sD,rE,↓reduceIte,rA]) (by simp only[↓sU,sD,rE,↓reduceIte,rA];exact bJ _) (by simp only[↓sU,sD,rE,↓reduceIte,rA];exact bJ _) rfl rfl rfl (by omega) (by omega) (by omega) ?_;intro X1 hX1n hgx hgy hX1;rw[cK];have hX1n:X1.nx=X.nx+17:=hX1n;have sX1:Same X X1:=⟨by omega,fun c hc=>hX1 c (by omega) (by omega)⟩;have lxX:X.nx≤X.nx+13:=by omega
  have lyX:X.nx≤X.nx+14:=by omega
  have lx1:X.nx+13<X1.nx:=by omega
  have ly1:X.nx+14<X1.nx:=by omega
  show mA fns _ _ X1 _;refine aA (aA (aS (Q:=fun o A' Y=>o= .normal∧A'.inr=false∧Same X1 Y∧jU A'.F S.nx (X.nx+13) (X.nx+14) mv v w i∧∃t,aD 87 A'.F= .bool t∧(t=true↔¬aAS g m i)) (aF ?_) ?_))
  ·have sX1':=sX.trans sX1;have hxa1:=hxa.same sX1';have hya1:=hya.same sX1';have hxp1:=hxp.same sX1';have hyp1:=hyp.same sX1';by_cases q1:(nodeAt g i).kind=(nodeAt g (eB m i)).kind;rotate_left
   ·simp only[↓sU,sD,rE,↓reduceIte,rA,aH,aG,dK hgx,dK hgy,Ab (show(nodeAt g i).kind≠(nodeAt g (eB m i)).kind from q1),jU,p1,p2,p4,p5,p8];exact⟨Same.refl _,true,rfl,fun _ h=>q1 h.1,fun _=>rfl⟩
   by_cases q2:(nodeAt g i).next.length=(nodeAt g (eB m i)).next.length;rotate_left
   ·simp only[↓sU,sD,rE,↓reduceIte,rA,aH,aG,dK hgx,dK hgy,cP hgx,cP hgy,hxa1.len,hya1.len,Ag,Aa (show ¬ (nodeAt g i).kind≠(nodeAt g (eB m i)).kind from fun h=>h q1),Ab (show(((nodeAt g i).next.length:Nat):Int)≠(((nodeAt g (eB m i)).next.length:Nat):Int) by omega),jU,p1,p2,p4,p5,p8];exact⟨Same.refl _,true,rfl,fun _ h=>q2 h.2.1,fun _=>rfl⟩
   simp only[↓sU,sD,rE,↓reduceIte,rA,aH,aG,dK hgx,dK hgy,cP hgx,cP hgy,dF hgx,dF hgy,hxa1.len,hya1.len,Ag,Aa (show ¬ (nodeAt g i).kind≠(nodeAt g (eB m i)).kind from fun h=>h q1),Aa (show ¬ (((nodeAt g i).next.length:Nat):Int)≠(((nodeAt g (eB m i)).next.length:Nat):Int) by omega),jU,p1,p2,p4,p5,p8];refine aY ?_;simp only[↓sU,sD,rE,↓reduceIte,rA];refine aP (mD H hxp1 hyp1 (by have:=G.pay i hlt;omega)) ?_;rintro _ Y ⟨rfl,hY⟩;by_cases q3:(nodeAt g i).pay=(nodeAt g (eB m i)).pay;rotate_left
   ·simp only[↓sU,sD,rE,↓reduceIte,rA,dH,Aa q3,Bq,p1,p2,p4,p5,p8];exact⟨hY,true,rfl,fun _ h=>q3 h.2.2.1,fun _=>rfl⟩
   have hgxY:Y.h.get (X.nx+13)=_:=(hY.2 _ lx1).trans hgx;have hgyY:Y.h.get (X.nx+14)=_:=(hY.2 _ ly1).trans hgy;simp only[↓sU,sD,rE,↓reduceIte,rA,dH,Ab q3,Bl,aH,aG,cT hgxY,cT hgyY,p1,p2,p4,p5,p8];refine⟨hY,_,rfl,?_⟩;rw[Ck];exact⟨fun h hl=>h hl.2.2.2,fun h he=>h ⟨q1,q2,q3,he⟩⟩
  clear p1 p2 p4 p5 p8;rintro o ⟨F,inr⟩ Y ⟨rfl,q0,hY,hP,t,p87,hLt⟩;simp only at q0 hP p87;subst q0;obtain⟨p1,p2,p4,p5,p8,p9,p10⟩:=hP;have sXY:=sX1.trans hY;have sSY:=hX.trans sXY;try simp only[↓sU,sD,rE,↓reduceIte,rA]
  cases t with
  | true=>
   refine aM (by simp only[↓sU,sD,rE,↓reduceIte,rA,p87]) ?_;refine bE ?_;simp only[↓sU,sD,rE,↓reduceIte,rA];refine aO ?_;simp only[↓sU,sD,rE,↓reduceIte,rA];refine .inr ⟨sSY,aG7 hlt (hLt.1 rfl),?_⟩;simp only[↓sU,sD,rE,↓reduceIte,rA]
  | false=>
  have hL:aAS g m i:=Classical.byContradiction fun h=>by have:=hLt.2 h;cases this
  refine aK (by simp only[↓sU,sD,rE,↓reduceIte,rA,p87]) (aI ?_);try simp only[↓sU,sD,rE,↓reduceIte,rA]
  clear p87 hLt;have gvY:=gv.step sXY;have gwY:=gw.step sXY;have hRY:=hR.same sXY;have hgxY:=(hY.2 _ lx1).trans hgx;have hgyY:=(hY.2 _ ly1).trans hgy;have lxY:X.nx+13<Y.nx:=Ae lx1 hY.1;have lyY:X.nx+14<Y.nx:=Ae ly1 hY.1;clear hgx hgy hX1 hX1n;refine bE ?_;simp only[↓sU,sD,rE,↓reduceIte,rA];refine aA (aS (Q:=fun o A' Z=>(o= .normal∧A'.inr=false∧Y.nx≤Z.nx∧Same S1 Z∧(∃I',jZ 1 S1 Z v g.infos.length (bC I')∧jZ 1 S1 Z w g.infos.length cs∧vM S1 Z bs cs As∧Seen g m (fun j=>j<i∨j=i) (fun j _=>j<i) I' As)∧jU A'.F S.nx (X.nx+13) (X.nx+14) mv v w i∧Z.h.get (X.nx+13)=Y.h.get (X.nx+13)∧Z.h.get (X.nx+14)=Y.h.get (X.nx+14)∧∃kn,aD 11 A'.F= .bool kn∧((nodeAt g i).kind=2→(kn=true↔∃j,j<i∧(nodeAt g j).kind=2∧(nodeAt g j).info=(nodeAt g i).info))∧((nodeAt g i).kind≠2→kn=false))∨(o= .ret∧aBt S1 g m A' Z)) (aA (aF ?_)) ?_)
  ·simp only[↓sU,sD,rE,↓reduceIte,rA,p9,aH,aG,dK hgxY];by_cases hk:(nodeAt g i).kind=2;rotate_left
   ·refine aK (by simp only[↓sU,sD,rE,↓reduceIte,rA,Aa hk]) (aI ?_);refine .inl ⟨rfl,rfl,Ah _,sSY,⟨I,gvY,gwY,hRY,hS.node hL hk⟩,?_,rfl,rfl,false,by simp only[↓sU,sD,rE,↓reduceIte,rA],fun h=>absurd h hk,fun _=>rfl⟩;simp only[↓sU,sD,rE,↓reduceIte,rA,jU,p1,p2,p4,p5,p8,p9,p10]
   refine aM (by simp only[↓sU,sD,rE,↓reduceIte,rA,Ab hk]) ?_;obtain⟨a1,a2,a3⟩:=G.inf i hlt hk;have hs:(nodeAt g i).info.toNat<g.infos.length:=by omega
   have hsI:(nodeAt g i).info.toNat<I.length:=by rw[hS.li];exact hs
   have hni:=mE (k:=.i64) a1;rcases gvY with⟨_,h0',_⟩ | ⟨vb,hv,hvb0,hvb1,hvb2,hvb3⟩
   ·rw[h0'] at hs;exact absurd hs (Ce _)
   have hia:=dI (b:=vb) (o:=true) hs;have hld:=vE hvb2 hsI;refine bE ?_;simp only[↓sU,sD,rE,↓reduceIte,rA,p4,p9,aH,aG,cQ hgxY,hni,hv,hia,hld];have hknow:0≤I.getD (nodeAt g i).info.toNat 0↔∃j,j<i∧(nodeAt g j).kind=2∧(nodeAt g j).info=(nodeAt g i).info:=by
    constructor
    ·intro h;obtain⟨j,b1,b2,b3,b4⟩:=hS.iw _ hs h;exact⟨j,b2,b3,by omega⟩
    ·rintro⟨j,b2,b3,b4⟩;have:=hS.iv j (by omega) b2 b3;rw[←b4,this];exact(mX G M (by omega) (hS.lk j (by omega) b2) b3).1
   refine aA (aS (Q:=fun o A' Z=>(o= .normal∧A'.inr=false∧Z=⟨Y.h,Y.nx+11⟩∧jU A'.F S.nx (X.nx+13) (X.nx+14) mv v w i∧aD 11 A'.F= .bool (decide (0≤I.getD (nodeAt g i).info.toNat 0))∧(0≤I.getD (nodeAt g i).info.toNat 0→I.getD (nodeAt g i).info.toNat 0=(nodeAt g (eB m i)).info))∨(o= .ret∧aBt S1 g m A' Z)) (aA (gJ ?_)) ?_)
   ·by_cases hkn:0≤I.getD (nodeAt g i).info.toNat 0
    ·simp only[↓sU,sD,rE,↓reduceIte,rA,p4,p9,p10,aH,aX,aG,cQ hgxY,cQ hgyY,hni,hv,hia,hld,Ab (show I.getD (nodeAt g i).info.toNat 0≥0 from hkn)];by_cases he:I.getD (nodeAt g i).info.toNat 0=(nodeAt g (eB m i)).info
     ·refine aK (by simp only[↓sU,sD,rE,↓reduceIte,rA,Aa (show ¬I.getD (nodeAt g i).info.toNat 0≠(nodeAt g (eB m i)).info from fun h=>h he)]) (aI ?_);refine .inl ⟨rfl,rfl,rfl,?_,?_,fun _=>he⟩
      ·simp only[↓sU,sD,rE,↓reduceIte,rA,jU,p1,p2,p4,p5,p8,p9,p10,hv]
      ·simp only[↓sU,sD,rE,↓reduceIte,rA,Ab hkn]
     ·refine aM (by simp only[↓sU,sD,rE,↓reduceIte,rA,Ab (show I.getD (nodeAt g i).info.toNat 0≠(nodeAt g (eB m i)).info from he)]) ?_;refine bE ?_;simp only[↓sU,sD,rE,↓reduceIte,rA];refine aO ?_;refine .inr ⟨rfl,sSY.trans (Same.nx _ _),hS.no_info G hlt hk hkn he,?_⟩;simp only[↓sU,sD,rE,↓reduceIte,rA]
    ·simp only[↓sU,sD,rE,↓reduceIte,rA,Aa (show ¬I.getD (nodeAt g i).info.toNat 0≥0 from hkn)];refine aK (by simp only[↓sU,sD,rE,↓reduceIte,rA]) (aI ?_);refine .inl ⟨rfl,rfl,rfl,?_,?_,fun h=>absurd h hkn⟩
     ·simp only[↓sU,sD,rE,↓reduceIte,rA,jU,p1,p2,p4,p5,p8,p9,p10,hv]
     ·simp only[↓sU,sD,rE,↓reduceIte,rA,Aa hkn]
   clear p1 p2 p4 p5 p8 p9 p10;rintro o ⟨F,inr⟩ Z (⟨rfl,q0,rfl,hP,p11,hke⟩ | ⟨rfl,hf⟩);rotate_left
   ·simp only[↓sU,sD,rE,↓reduceIte,rA];exact .inr hf
   simp only at q0 hP p11;subst q0;obtain⟨p1,p2,p4,p5,p8,p9,p10⟩:=hP;try simp only[↓sU,sD,rE,↓reduceIte,rA]
   refine aF ?_;simp only[↓sU,sD,rE,↓reduceIte,rA,p4,p9,p10,aH,aG,cQ hgxY,cQ hgyY,hni,hv,hia];refine fD (fun call=>by simp only[↓sU,sD,rE,↓reduceIte,rA,eJ,cI];exact oC (S:=⟨Y.h,Y.nx+11⟩) hvb2 hsI) ?_;simp only[↓sU,sD,rE,↓reduceIte,rA];have hvw':cL w≠some vb:=hvw vb (by rw[hv];rfl);have hvbX:vb<X.nx:=by
    rcases gv with⟨h,_⟩ | ⟨vb',h,_,h2,_⟩
    ·rw[h] at hv;cases hv
    ·rw[h] at hv;cases hv;exact h2
   refine .inl ⟨by omega,⟨by have:=sSY.1;simp only;omega,fun c hc=>?_⟩,⟨_,.inr ⟨vb,rfl,hvb0,Ae hvb1 (Cd _ _),by simp only;rw[T.get_set,if_pos rfl],by unfold bC at hvb3 ⊢;rw[Bc] at hvb3 ⊢;rw[Al];exact hvb3⟩,gwY.move (Cd _ _) (fun c hc=>?_),hRY.move (Cd _ _) (fun j hj=>?_),hS.nodeM G M hlt hL hk hke⟩,?_,?_,?_,decide (0≤I.getD (nodeAt g i).info.toNat 0),by simp only[↓sU,sD,rE,↓reduceIte,rA,p11],fun _=>?_,fun h=>absurd hk h⟩
   ·simp only;rw[T.get_set,if_neg (by omega)];exact sSY.2 c hc
   ·simp only;rw[T.get_set,if_neg (fun e=>hvw' (by rw[hc,e]))]
   ·simp only;rw[T.get_set,if_neg (aE0 (hRY.bl j hj).2.2 hvb2)]
   ·simp only[↓sU,sD,rE,↓reduceIte,rA,jU,p1,p2,p4,p5,p8,p9,p10,hv]
   ·try simp only
    rw[T.get_set,if_neg (by omega)]
   ·try simp only
    rw[T.get_set,if_neg (by omega)]
   ·rw[Ck];exact hknow
  clear p1 p2 p4 p5 p8 p9 p10;rintro o ⟨F,inr⟩ Z (⟨rfl,q0,hYZ,sSZ,⟨I',gvZ,gwZ,hRZ,hSZ⟩,hP,ex,ey,kn,p11,hkn,hkf⟩ | ⟨rfl,hf⟩);rotate_left
  ·simp only[↓sU,sD,rE,↓reduceIte,rA];exact .inr hf
  simp only at q0 hP p11;subst q0;have hbs:∀s,s<g.infos.length→bs s<X.nx:=fun s hs=>(hR.bl s (by rw[hS.la];exact hs)).2.1;have hcr:∀c∈(nodeAt g i).next,0≤c∧c<g.nodes.length:=fun c hc=>by
   obtain⟨T,_,hTl,hW⟩:=G.walk;have:=hW.cf i (by omega) c (by rw[An,fO];exact hc);omega
  rw[hgxY] at ex;rw[hgyY] at ey;clear gvY gwY hRY hgxY hgyY gv gw hR hS hY sXY sSY ia la;obtain⟨p1,p2,p4,p5,p8,p9,p10⟩:=hP;try simp only[↓sU,sD,rE,↓reduceIte,rA]
  refine bE ?_;simp only[↓sU,sD,rE,↓reduceIte,rA];refine aS (Q:=fun o A' W=>(o= .normal∧aNv S1 S.nx (X.nx+13) (X.nx+14) mv v w cs bs g m i kn (Z.h.get (X.nx+13)) (Z.h.get (X.nx+14)) 0 A' W)∨(o= .ret∧aBt S1 g m A' W)) (aJ (bB (aNv S1 S.nx (X.nx+13) (X.nx+14) mv v w cs bs g m i kn (Z.h.get (X.nx+13)) (Z.h.get (X.nx+14))) ?_ (nodeAt g i).next.length _ _ ⟨rfl,sSZ,by omega,by omega,0,I',As,by omega,gvZ,gwZ,hRZ,hSZ.congr (fun _ _=>Iff.rfl) (fun j k' _ _ h=>by omega),(by simp only[↓sU,sD,rE,↓reduceIte,rA,jU,p1,p2,p4,p5,p8,p9,p10]),rfl,rfl,(by simp only[↓sU,sD,rE,↓reduceIte,rA,p11]),(by simp only[↓sU,sD,rE,↓reduceIte,rA])⟩)) ?_
  ·clear p1 p2 p4 p5 p8 p9 p10 p11 gvZ gwZ hRZ hSZ sSZ;rintro k ⟨F,inr⟩ W ⟨q0,hW,lxW,lyW,kk,I,As,hkk,gv,gw,hR,hS,hP,exW,eyW,p11,p12⟩;simp only at q0 hP p11 p12;subst q0;rw[ex] at exW;rw[ey] at eyW;obtain⟨p1,p2,p4,p5,p8,p9,p10⟩:=hP;have sW:=s1.trans hW;have hxaW:=hxa.same sW;refine eG ?_;simp only[↓sU,sD,rE,↓reduceIte,rA,p9,p12,aH,aG,cP exW,hxaW.len,Ag];by_cases hkl:kk<(nodeAt g i).next.length;rotate_left
   ·refine aK (by simp only[↓sU,sD,rE,↓reduceIte,rA,Aa (show ¬ (kk:Int)<(((nodeAt g i).next.length:Nat):Int) by omega)]) (aU ?_);simp only[↓sU,sD,rE,↓reduceIte,rA];have hk0:k=0:=by omega
    subst hk0;exact .inl ⟨rfl,hW,lxW,lyW,kk,I,As,hkk,gv,gw,hR,hS,(by simp only[↓sU,sD,rE,↓reduceIte,rA,jU,p1,p2,p4,p5,p8,p9,p10]),by rw[exW,ex],by rw[eyW,ey],(by simp only[↓sU,sD,rE,↓reduceIte,rA,p11]),(by simp only[↓sU,sD,rE,↓reduceIte,rA,p12])⟩
   refine aM (by simp only[↓sU,sD,rE,↓reduceIte,rA,Ab (show(kk:Int)<(((nodeAt g i).next.length:Nat):Int) by omega)]) (aI ?_);try simp only[↓sU,sD,rE,↓reduceIte,rA]
   have hmW:=hm.same sW;have hcm:(nodeAt g i).next.getD kk 0∈(nodeAt g i).next:=by rw[Ad,Ac hkl];exact Bh _
   obtain⟨hc0,hcN⟩:=hcr _ hcm;have hiac:=hxaW.iaddr hkl;have hlac:=hxaW.ld hkl;obtain⟨b1,o1,hp1,lb1⟩:=bN.place hxaW hkl;rw[hp1] at hiac hlac;have hnc:=mE (k:=.i64) hc0;have hcl:((nodeAt g i).next.getD kk 0).toNat<m.length:=by rw[M.len];omega
   have hiam:=hmW.iaddr hcl;have hlam:=hmW.ld hcl;obtain⟨b2,o2,hp2,lb2⟩:=bN.place hmW hcl;rw[hp2] at hiam hlam;have hyaW:=hya.same sW;have hywW:=hyw.same sW;have hypW:=hyp.same sW;have sxa:=bN.self hxa;have smv:=bN.self hm;have w2:IntKind.i64.wrap ((kk:Int)+1)=((kk+1:Nat):Int):=by have:=G.nxt i hlt;rw[wrap_i64 (by omega) (by omega)];omega
   have hzz:iJ (nodeAt g (eB m i)).next 0 (m.getD ((nodeAt g i).next.getD kk 0).toNat 0)=iM g m i kk:=rfl;refine aA (aJ (aA (cR (fun _=>False) ?_)));intro W1 w1';simp only[↓sU,sD,rE,↓reduceIte,rA,p1,p9,p10,p12,aH,aX,aG,ldN eyW,cP exW,lxW,lyW,Aq,sy,sxa,aE,hiac,hlac,lb1,hnc,hiam,hlam,lb2];refine bX rfl ?_;simp only[↓sU,sD,rE,↓reduceIte,rA];refine aP (aGp H ⟨ya,yw,yp,rfl,hyaW.same w1',hywW.same w1',hypW.same w1'⟩ (by have:=G.nxt _ htoN;omega)) ?_;rintro _ W2 ⟨rfl,hW2⟩;refine⟨hW2,?_⟩;rw[hzz];have sWW:=w1'.trans hW2;have sS2:=hW.trans sWW;have sW2:=s1.trans sS2;have exV:=(sWW.2 _ lxW).trans exW;have eyV:=(sWW.2 _ lyW).trans eyW;have gvV:=gv.step sWW;have gwV:=gw.step sWW;have hRV:=hR.same sWW;have lxV:X.nx+13<W2.nx:=Ae lxW sWW.1;have lyV:X.nx+14<W2.nx:=Ae lyW sWW.1;have hxwV:=hxw.same sW2;have hywV:=hyw.same sW2;clear hzz gv gw hR exW eyW lxW lyW hiac hlac hiam hlam hnc;generalize hzd:iM g m i kk=z at *;refine aA (aS (Q:=fun o A' V=>(o= .normal∧A'.inr=false∧V=⟨W2.h,W2.nx+35⟩∧jU A'.F S.nx (X.nx+13) (X.nx+14) mv v w i∧aD 11 A'.F= .bool kn∧aD 12 A'.F= .int .i64 (kk:Int)∧aD 13 A'.F= .int .i64 z∧0≤z∧yJ g m i kk∧((nodeAt g i).kind=2→kn=true→(As.getD (nodeAt g i).info.toNat []).getD kk 0=z))∨(o= .ret∧aBt S1 g m A' V)) (aA (gJ ?_)) ?_)
   ·by_cases c1:z<0
    ·simp only[↓sU,sD,rE,↓reduceIte,rA,Ab c1];refine aM (by simp only[↓sU,sD,rE,↓reduceIte,rA]) ?_;refine bE ?_;simp only[↓sU,sD,rE,↓reduceIte,rA];refine aO ?_;refine .inr ⟨rfl,sS2.trans (Same.nx _ _),aKy hlt hkl (by rw[hzd];omega),?_⟩;simp only[↓sU,sD,rE,↓reduceIte,rA]
    have hz0:0≤z:=Int.not_lt.1 c1;have hnz:=mE (k:=.i64) hz0;have hzl:z.toNat<(nodeAt g (eB m i)).next.length:=by rw[←hzd];exact aG8 (by rw[hzd];exact hz0)
    by_cases k1:(nodeAt g i).kind=1
    ·have k2:(nodeAt g (eB m i)).kind=1:=by rw[←hL.1];exact k1
     have l1:kk<(nodeAt g i).weights.length:=by rw[G.wts i hlt k1];exact hkl
     have l2:z.toNat<(nodeAt g (eB m i)).weights.length:=by rw[G.wts _ htoN k2];exact hzl
     have i1:=hxwV.iaddr l1;have i2:=hxwV.ld l1;have i3:=hywV.iaddr l2;have i4:=hywV.ld l2;have sxw:=bN.self hxw;have syw:=bN.self hyw;have hkn0:kn=false:=hkf (by omega);subst hkn0;by_cases c2:(nodeAt g i).weights.getD kk 0=(nodeAt g (eB m i)).weights.getD z.toNat 0
     ·simp only[↓sU,sD,rE,↓reduceIte,rA,Aa c1,p9,p10,p11,p12,aH,aX,aG,dK exV,cU exV,cU eyV,Ab k1,sxw,syw,aE,hnz,i1,i2,i3,i4,Aa (show ¬ (nodeAt g i).weights.getD kk 0≠(nodeAt g (eB m i)).weights.getD z.toNat 0 from fun h=>h c2)];refine aK (by simp only[↓sU,sD,rE,↓reduceIte,rA]) (aI ?_);refine .inl ⟨rfl,rfl,rfl,?_,?_,?_,?_,Int.not_lt.1 c1,fun _=>by rw[hzd];exact c2,fun h=>by omega⟩
      ·simp only[↓sU,sD,rE,↓reduceIte,rA,jU,p1,p2,p4,p5,p8,p9,p10]
      ·simp only[↓sU,sD,rE,↓reduceIte,rA,p11]
      ·simp only[↓sU,sD,rE,↓reduceIte,rA,p12]
      ·simp only[↓sU,sD,rE,↓reduceIte,rA]
     ·simp only[↓sU,sD,rE,↓reduceIte,rA,Aa c1,p9,p10,p11,p12,aH,aX,aG,dK exV,cU exV,cU eyV,Ab k1,sxw,syw,aE,hnz,i1,i2,i3,i4,Ab (show(nodeAt g i).weights.getD kk 0≠(nodeAt g (eB m i)).weights.getD z.toNat 0 from c2)];refine aM (by simp only[↓sU,sD,rE,↓reduceIte,rA]) ?_;refine bE ?_;simp only[↓sU,sD,rE,↓reduceIte,rA];refine aO ?_;refine .inr ⟨rfl,sS2.trans (Same.nx _ _),aEy hlt hkl (fun h=>c2 (by have:=h k1;rw[hzd] at this;exact this)),?_⟩;simp only[↓sU,sD,rE,↓reduceIte,rA]
    have hW0:yJ g m i kk:=fun h=>absurd h k1;cases kn with
    | false=>
     simp only[↓sU,sD,rE,↓reduceIte,rA,Aa c1,p9,p11,aH,aX,aG,dK exV,Aa k1];refine aK (by simp only[↓sU,sD,rE,↓reduceIte,rA]) (aI ?_);refine .inl ⟨rfl,rfl,rfl,?_,?_,?_,?_,Int.not_lt.1 c1,hW0,fun _=>trivial⟩
     ·simp only[↓sU,sD,rE,↓reduceIte,rA,jU,p1,p2,p4,p5,p8,p9,p10]
     ·simp only[↓sU,sD,rE,↓reduceIte,rA,p11]
     ·simp only[↓sU,sD,rE,↓reduceIte,rA,p12]
     ·simp only[↓sU,sD,rE,↓reduceIte,rA]
    | true=>
     have hk:(nodeAt g i).kind=2:=Decidable.byContradiction fun h=>by have:=hkf h;cases this
     obtain⟨a1,a2,a3⟩:=G.inf i hlt hk;have hni:=mE (k:=.i64) a1;have hs:(nodeAt g i).info.toNat<g.infos.length:=by omega
     have hsA:(nodeAt g i).info.toNat<As.length:=by rw[hS.la];exact hs
     have hls:=hS.ls _ hs;rw[show(((nodeAt g i).info.toNat:Nat):Int)=(nodeAt g i).info by omega,a3] at hls;rcases gwV with⟨_,h0',_⟩ | ⟨wb,hw,hwb0,hwb1,hwb2,hwb3⟩
     ·rw[h0'] at hs;exact absurd hs (Ce _)
     have hia:=dI (b:=wb) (o:=true) hs;have hld:=fN hwb2 (hRV.cl _ hsA);have hb2:=(hRV.bl _ hsA).2.2;have hkA:kk<(As.getD (nodeAt g i).info.toNat []).length:=by omega
     have hia2:=dI (b:=bs (nodeAt g i).info.toNat) (o:=false) hkA;have hld2:=vE hb2 hkA;have srow:cB (oD (bs (nodeAt g i).info.toNat) (As.getD (nodeAt g i).info.toNat [])) (oD (bs (nodeAt g i).info.toNat) (As.getD (nodeAt g i).info.toNat []))=true:=mM ..;unfold oD at hld srow;by_cases c3:(As.getD (nodeAt g i).info.toNat []).getD kk 0=z
     ·simp only[↓sU,sD,rE,↓reduceIte,rA,Aa c1,p5,p9,p10,p11,p12,aH,aX,aG,dK exV,cQ exV,Aa k1,hw,hni,hia,hld,srow,aE,hia2,hld2,Aa (show ¬ (As.getD (nodeAt g i).info.toNat []).getD kk 0≠z from fun h=>h c3)];refine aK (by simp only[↓sU,sD,rE,↓reduceIte,rA]) (aI ?_);refine .inl ⟨rfl,rfl,rfl,?_,?_,?_,?_,Int.not_lt.1 c1,hW0,fun _=>c3⟩
      ·simp only[↓sU,sD,rE,↓reduceIte,rA,jU,p1,p2,p4,p5,p8,p9,p10,hw]
      ·simp only[↓sU,sD,rE,↓reduceIte,rA,p11]
      ·simp only[↓sU,sD,rE,↓reduceIte,rA,p12]
      ·simp only[↓sU,sD,rE,↓reduceIte,rA]
     ·simp only[↓sU,sD,rE,↓reduceIte,rA,Aa c1,p5,p9,p10,p11,p12,aH,aX,aG,dK exV,cQ exV,Aa k1,hw,hni,hia,hld,srow,aE,hia2,hld2,Ab (show(As.getD (nodeAt g i).info.toNat []).getD kk 0≠z from c3)];obtain⟨j,j1,j2,j3⟩:=(hkn hk).1 rfl;refine aM (by simp only[↓sU,sD,rE,↓reduceIte,rA]) ?_;refine bE ?_;simp only[↓sU,sD,rE,↓reduceIte,rA];refine aO ?_;refine .inr ⟨rfl,sS2.trans (Same.nx _ _),hS.no_act G hlt (by omega) hk j2 j3 hkl (.inl j1) (by rw[hzd];exact c3),?_⟩;simp only[↓sU,sD,rE,↓reduceIte,rA]
   clear p1 p2 p4 p5 p8 p9 p10 p11 p12;rintro o ⟨F,inr⟩ V (⟨rfl,q0,rfl,hP,p11,p12,p13,hz0,hwe,hac⟩ | ⟨rfl,hf⟩);rotate_left
   ·simp only[↓sU,sD,rE,↓reduceIte,rA];exact .inr hf
   simp only at q0 hP p11 p12 p13;subst q0;obtain⟨p1,p2,p4,p5,p8,p9,p10⟩:=hP;try simp only[↓sU,sD,rE,↓reduceIte,rA]
   refine aS (Q:=fun o A' V=>o= .normal∧A'.inr=false∧Same S1 V∧W2.nx≤V.nx∧(∃As',jZ 1 S1 V v g.infos.length (bC I)∧jZ 1 S1 V w g.infos.length cs∧vM S1 V bs cs As'∧Seen g m (fun j=>j<i∨j=i) (fun j k'=>(j<i∨(j=i∧k'<kk))∨(j=i∧k'=kk)) I As')∧jU A'.F S.nx (X.nx+13) (X.nx+14) mv v w i∧V.h.get (X.nx+13)=W2.h.get (X.nx+13)∧V.h.get (X.nx+14)=W2.h.get (X.nx+14)∧aD 11 A'.F= .bool kn∧aD 12 A'.F= .int .i64 (kk:Int)) (aA (aF ?_)) ?_
   ·simp only[↓sU,sD,rE,↓reduceIte,rA,p9,aH,aG,dK exV];by_cases hk:(nodeAt g i).kind=2;rotate_left
    ·refine aK (by simp only[↓sU,sD,rE,↓reduceIte,rA,Aa hk]) (aI ?_);refine⟨rfl,rfl,sS2.trans (Same.nx _ _),Cd _ _,⟨As,gvV.step (Same.nx _ _),gwV.step (Same.nx _ _),hRV.same (Same.nx _ _),hS.kid (by rw[hzd];exact hz0) hwe hk⟩,?_,rfl,rfl,?_,?_⟩
     ·simp only[↓sU,sD,rE,↓reduceIte,rA,jU,p1,p2,p4,p5,p8,p9,p10]
     ·simp only[↓sU,sD,rE,↓reduceIte,rA,p11]
     ·simp only[↓sU,sD,rE,↓reduceIte,rA,p12]
    refine aM (by simp only[↓sU,sD,rE,↓reduceIte,rA,Ab hk]) ?_;obtain⟨a1,a2,a3⟩:=G.inf i hlt hk;have hni:=mE (k:=.i64) a1;have hs:(nodeAt g i).info.toNat<g.infos.length:=by omega
    have hsA:(nodeAt g i).info.toNat<As.length:=by rw[hS.la];exact hs
    have hls:=hS.ls _ hs;rw[show(((nodeAt g i).info.toNat:Nat):Int)=(nodeAt g i).info by omega,a3] at hls;have hw':=gwV;rcases hw' with⟨_,h0',_⟩ | ⟨wb,hw,hwb0,hwb1,hwb2,hwb3⟩
    ·rw[h0'] at hs;exact absurd hs (Ce _)
    have hia:=dI (b:=wb) (o:=true) hs;have hld:=fN hwb2 (hRV.cl _ hsA);have hb2:=(hRV.bl _ hsA).2.2;have hb1:=(hRV.bl _ hsA).1;have hkA:kk<(As.getD (nodeAt g i).info.toNat []).length:=by omega
    have hia2:=dI (b:=bs (nodeAt g i).info.toNat) (o:=false) hkA;have hbX:=hbs _ hs;unfold oD at hld;refine aF ?_;simp only[↓sU,sD,rE,↓reduceIte,rA,p5,p9,p12,p13,aH,aG,cQ exV,hw,hni,hia,hld,aE,hia2];refine fD (fun call=>by simp only[↓sU,sD,rE,↓reduceIte,rA,eJ,cI];exact oC (S:=⟨W2.h,W2.nx+35⟩) hb2 hkA) ?_;simp only[↓sU,sD,rE,↓reduceIte,rA];have hSk:=hS.kidM G hlt hkl (by rw[hzd];exact hz0) hwe hk fun j _ hj hkj e=>by rw[hzd];exact hac hk ((hkn hk).2 ⟨j,by omega,hkj,e⟩)
    rw[hzd] at hSk;refine⟨(sS2.trans (Same.nx _ _)).put hb1 _,Cd _ _,⟨_,gvV.move (Cd _ _) (fun c hc=>?_),(by rw[←hw];exact gwV.move (Cd _ _) (fun c hc=>by simp only;rw[T.get_set,if_neg (Co (aE0 hb2 (gwV.blk hc).2.2))])),hRV.put hsA (Cd _ _),hSk⟩,?_,?_,?_,?_,?_⟩
    ·simp only;rw[T.get_set,if_neg (Co (aE0 hb2 (gvV.blk hc).2.2))]
    ·simp only[↓sU,sD,rE,↓reduceIte,rA,jU,p1,p2,p4,p5,p8,p9,p10,hw]
    ·try simp only
     rw[T.get_set,if_neg (by omega)]
    ·try simp only
     rw[T.get_set,if_neg (by omega)]
    ·simp only[↓sU,sD,rE,↓reduceIte,rA,p11]
    ·simp only[↓sU,sD,rE,↓reduceIte,rA,p12]
   clear p1 p2 p4 p5 p8 p9 p10 p11 p12 p13;rintro o ⟨F,inr⟩ V ⟨rfl,q0,sSV,hVn,⟨As',gv',gw',hR',hS'⟩,hP,exV',eyV',p11,p12⟩;simp only at q0 hP p11 p12;subst q0;obtain⟨p1,p2,p4,p5,p8,p9,p10⟩:=hP;try simp only[↓sU,sD,rE,↓reduceIte,rA]
   refine aF ?_;simp only[↓sU,sD,rE,↓reduceIte,rA,p12,w2];refine⟨k - 1,by omega,rfl,sSV,by omega,by omega,kk+1,I,As',by omega,gv',gw',hR',hS'.congr (fun _ _=>Iff.rfl) (fun j k' _ _ h=>by omega),?_,?_,?_,?_,?_⟩
   ·simp only[↓sU,sD,rE,↓reduceIte,rA,jU,p1,p2,p4,p5,p8,p9,p10]
   ·rw[exV',exV,ex]
   ·rw[eyV',eyV,ey]
   ·simp only[↓sU,sD,rE,↓reduceIte,rA,p11]
   ·simp only[↓sU,sD,rE,↓reduceIte,rA]
  clear p1 p2 p4 p5 p8 p9 p10 p11 gvZ gwZ hRZ hSZ sSZ;rintro o ⟨F,inr⟩ V (⟨rfl,q0,hV,_,_,kk,I2,As2,hkk,gv2,gw2,hR2,hS2,hP,_,_,p11,p12⟩ | ⟨rfl,hf⟩);rotate_left
  ·simp only[↓sU,sD,rE,↓reduceIte,rA];exact .inr hf
  simp only at q0 hP;subst q0;obtain⟨p1,p2,p4,p5,p8,p9,p10⟩:=hP;try simp only[↓sU,sD,rE,↓reduceIte,rA]
  refine aF ?_;simp only[↓sU,sD,rE,↓reduceIte,rA,p8,w1];refine⟨k - 1,by omega,rfl,hV,i+1,I2,As2,by omega,gv2,gw2,hR2,hS2.congr (fun j _=>by omega) (fun j k' _ hk' h=>?_),by refine⟨?_,?_,?_,?_,?_⟩<;>simp only[↓sU,sD,rE,↓reduceIte,rA,p1,p2,p4,p5]⟩;rcases Bx j i with h1 | h1
  ·exact .inl h1
  ·have e:j=i:=by omega
   subst e;exact .inr ⟨rfl,by omega⟩
 rintro o ⟨F,inr⟩ Y (⟨rfl,q0,hY,i,I,As,hik,gv',gw',hR',hS,p1,p2,p4,p5,p8⟩ | ⟨rfl,hf⟩);rotate_left
 ·obtain⟨h1,h2,h3,h4,h5⟩:=hf;simp only[↓sU,sD,rE,↓reduceIte,rA,h3,h4,h5];exact⟨s1.trans h1,_,_,false,rfl,⟨fun h=>(by cases h),fun a=>absurd a h2⟩,fun h=>by cases h⟩
 simp only at q0 p4 p5;subst q0
 replace hS:Seen g m (fun _=>True) (fun _ _=>True) I As:=hS.congr (fun j hj=>⟨fun _=>trivial,fun _=>by omega⟩) (fun j _ hj _ _=>by omega)
 clear p8 hik hX gv gw hR;try simp only[↓sU,sD,rE,↓reduceIte,rA]
 refine aA (aS (Q:=fun o A' Z=>(o= .normal∧aNG Y v w I g.infos.length 0 A' Z)∨(o= .ret∧aBt Y g m A' Z)) (aA (aF ?_)) ?_)
 ·simp only[↓sU,sD,rE,↓reduceIte,rA];refine aJ (bB (aNG Y v w I g.infos.length) ?_ g.infos.length _ _ ⟨rfl,Same.refl _,0,by omega,fun a b _ ha=>by omega,by refine⟨?_,?_,?_⟩<;>simp only[↓sU,sD,rE,↓reduceIte,rA,p4,p5]⟩);clear p4 p5;rintro k ⟨F,inr⟩ Z ⟨q0,hZ,i,hik,hd,p4,p5,p14⟩;simp only at q0 p4 p5 p14;subst q0;have hlen:=gv'.len;refine eG ?_;simp only[↓sU,sD,rE,↓reduceIte,rA,p4,p14,hlen];by_cases hlt:i<g.infos.length;rotate_left
  ·refine aK (by simp only[↓sU,sD,rE,↓reduceIte,rA,Aa (show ¬ (i:Int)<((g.infos.length:Nat):Int) by omega)]) (aU ?_);simp only[↓sU,sD,rE,↓reduceIte,rA];have hk0:k=0:=by omega
   subst hk0;exact .inl ⟨rfl,hZ,i,hik,hd,by refine⟨?_,?_,?_⟩<;>simp only[↓sU,sD,rE,↓reduceIte,rA,p4,p5,p14]⟩
  refine aM (by simp only[↓sU,sD,rE,↓reduceIte,rA,Ab (show(i:Int)<((g.infos.length:Nat):Int) by omega)]) (aI ?_);try simp only[↓sU,sD,rE,↓reduceIte,rA]
  have w1:IntKind.i64.wrap ((i:Int)+1)=((i+1:Nat):Int):=by rw[wrap_i64 (by omega) (by omega)];omega
  refine aA (aJ (aA (aF ?_)));simp only[↓sU,sD,rE,↓reduceIte,rA];refine aS (Q:=fun o A' V=>(o= .normal∧aOq Z v w I i 0 A' V)∨(o= .ret∧aBt Y g m A' V)) (aJ (bB (aOq Z v w I i) ?_ i _ _ ⟨rfl,Same.refl _,0,by omega,fun b hb=>by omega,by refine⟨?_,?_,?_,?_⟩<;>simp only[↓sU,sD,rE,↓reduceIte,rA,p4,p5,p14]⟩)) ?_
  ·clear p4 p5 p14;rintro k' ⟨F,inr⟩ V ⟨q0,hV,l,hlk,hd',p4,p5,p14,p15⟩;simp only at q0 p4 p5 p14 p15;subst q0;refine eG ?_;simp only[↓sU,sD,rE,↓reduceIte,rA,p14,p15];by_cases hl:l<i;rotate_left
   ·refine aK (by simp only[↓sU,sD,rE,↓reduceIte,rA,Aa (show ¬ (l:Int)<(i:Int) by omega)]) (aU ?_);simp only[↓sU,sD,rE,↓reduceIte,rA];have hk0:k'=0:=by omega
    subst hk0;exact .inl ⟨rfl,hV,l,hlk,hd',by refine⟨?_,?_,?_,?_⟩<;>simp only[↓sU,sD,rE,↓reduceIte,rA,p4,p5,p14,p15]⟩
   refine aM (by simp only[↓sU,sD,rE,↓reduceIte,rA,Ab (show(l:Int)<(i:Int) by omega)]) (aI ?_);try simp only[↓sU,sD,rE,↓reduceIte,rA]
   have gvV:=gv'.step (hZ.trans hV);have w2:IntKind.i64.wrap ((l:Int)+1)=((l+1:Nat):Int):=by rw[wrap_i64 (by omega) (by omega)];omega
   rcases gvV with⟨_,h0',_⟩ | ⟨vb,hv,_,_,hvb2,_⟩
   ·rw[h0'] at hlt;exact absurd hlt (Ce _)
   have ll:l<g.infos.length:=by omega
   have hi1:=dI (b:=vb) (o:=true) hlt;have hi2:=dI (b:=vb) (o:=true) ll;have hl1:=vE hvb2 (show i<I.length by rw[hS.li];exact hlt);have hl2:=vE hvb2 (show l<I.length by rw[hS.li];exact ll);refine aA (aJ (aA (gJ ?_)));simp only[↓sU,sD,rE,↓reduceIte,rA,p4,p14,p15,hv,aE,hi1,hi2,hl1,hl2];by_cases he:I.getD i 0=I.getD l 0
   ·refine aM (by simp only[↓sU,sD,rE,↓reduceIte,rA,Ab he]) ?_;refine bE ?_;simp only[↓sU,sD,rE,↓reduceIte,rA];refine aO ?_;refine .inr ⟨rfl,(hZ.trans hV).trans (Same.nx _ _),hS.no_inj G hlt ll (by omega) he,?_⟩;simp only[↓sU,sD,rE,↓reduceIte,rA]
   ·refine aK (by simp only[↓sU,sD,rE,↓reduceIte,rA,Aa he]) (aI ?_);try simp only[↓sU,sD,rE,↓reduceIte,rA]
    refine aF ?_;simp only[↓sU,sD,rE,↓reduceIte,rA,p15,w2];refine⟨k' - 1,by omega,rfl,hV.trans (Same.nx _ _),l+1,by omega,fun b hb=>?_,by refine⟨?_,?_,?_,?_⟩<;>simp only[↓sU,sD,rE,↓reduceIte,rA,p4,hv,p5,p14]⟩;by_cases hbl:b=l
    ·rw[hbl];exact he
    ·exact hd' b (by omega)
  clear p4 p5 p14;rintro o ⟨F,inr⟩ V (⟨rfl,q0,hV,l,hlk,hd',p4,p5,p14,p15⟩ | ⟨rfl,hf⟩);rotate_left
  ·simp only[↓sU,sD,rE,↓reduceIte,rA];exact .inr hf
  simp only at q0 p4 p5 p14;subst q0;try simp only[↓sU,sD,rE,↓reduceIte,rA]
  refine aF ?_;simp only[↓sU,sD,rE,↓reduceIte,rA,p14,w1];refine⟨k - 1,by omega,rfl,hZ.trans hV,i+1,by omega,fun a b hb ha=>?_,by refine⟨?_,?_,?_⟩<;>simp only[↓sU,sD,rE,↓reduceIte,rA,p4,p5]⟩;by_cases hai:a=i
  ·rw[hai];exact hd' b (by omega)
  ·exact hd a b hb (by omega)
 clear p4 p5;rintro o ⟨F,inr⟩ Z (⟨rfl,q0,hZ,i,hik,hd,p4,p5,p14⟩ | ⟨rfl,hf⟩);rotate_left
 ·obtain⟨h1,h2,h3,h4,h5⟩:=hf;simp only[↓sU,sD,rE,↓reduceIte,rA,h3,h4,h5];exact⟨s1.trans (hY.trans h1),_,_,false,rfl,⟨fun h=>(by cases h),fun a=>absurd a h2⟩,fun h=>by cases h⟩
 simp only at q0 p4 p5;subst q0;try simp only[↓sU,sD,rE,↓reduceIte,rA]
 refine bE ?_;simp only[↓sU,sD,rE,↓reduceIte,rA,p4,p5];refine aO ?_;simp only[↓sU,sD,rE,↓reduceIte,rA];have hi0:i=g.infos.length:=by omega
 subst hi0;have hA:=hS.auto G h0 (hS.inj G hd);refine⟨s1.trans (hY.trans hZ),v,w,true,rfl,⟨fun _=>hA,fun _=>rfl⟩,fun _=>⟨?_,cs,bs,(gw'.step hZ).low s1.1,?_⟩⟩
 ·rw[←hS.imgI G];exact(gv'.step hZ).low s1.1
 ·rw[←hS.imgA G];exact(hR'.same hZ).low s1.1
structure fV(g:aW)(m:List Int)(n e:Nat)(I F:List Int)(A:List (List Int)):Prop where
 s:Seen g m (fun j=>j<n) (fun j k=>(nodeAt g j).next.getD k 0<(e:Int)) I A
 lf:F.length=g.infos.length
 fv:∀j,j<g.nodes.length→j<n→(nodeAt g j).kind=2→F.getD (nodeAt g (eB m j)).info.toNat 0=(nodeAt g j).info
 fw:∀t,t<g.infos.length→0≤F.getD t 0→∃j,j<g.nodes.length∧j<n∧(nodeAt g j).kind=2∧(nodeAt g (eB m j)).info=(t:Int)
 aw:∀s,s<g.infos.length→∀k,k<(A.getD s []).length→0≤(A.getD s []).getD k 0→∃j,j<g.nodes.length∧(nodeAt g j).kind=2∧(nodeAt g j).info=(s:Int)∧k<(nodeAt g j).next.length∧(nodeAt g j).next.getD k 0<(e:Int)
section
variable {g:aW}{m:List Int}{I F:List Int}{A:List (List Int)}{n e:Nat}
theorem fV.node(h:fV g m n e I F A)(hl:aAS g m n)(hk:(nodeAt g n).kind≠2):fV g m (n+1) e I F A:=
 ⟨(h.s.node hl hk).congr (fun j _=>by omega) (fun _ _ _ _ h=>h),h.lf,fun j hj hn hkj=>by
  by_cases e:j=n
  ·rw[e] at hkj;exact absurd hkj hk
  ·exact h.fv j hj (by omega) hkj,fun t ht h0=>by obtain⟨j,a,b,c⟩:=h.fw t ht h0;exact⟨j,a,by omega,c⟩,h.aw⟩
theorem fV.nodeM(G:fC g)(M:xI g m)(h:fV g m n e I F A)(hi:n<g.nodes.length)(hl:aAS g m n)(hk:(nodeAt g n).kind=2)(hI:0≤I.getD (nodeAt g n).info.toNat 0→I.getD (nodeAt g n).info.toNat 0=(nodeAt g (eB m n)).info)(hF:0≤F.getD (nodeAt g (eB m n)).info.toNat 0→F.getD (nodeAt g (eB m n)).info.toNat 0=(nodeAt g n).info):
  fV g m (n+1) e (I.set (nodeAt g n).info.toNat (nodeAt g (eB m n)).info) (F.set (nodeAt g (eB m n)).info.toNat (nodeAt g n).info) A:=by
 obtain⟨b1,b2⟩:=mX G M hi hl hk;have hlt:(nodeAt g (eB m n)).info.toNat<F.length:=by rw[h.lf];omega
 refine⟨(h.s.nodeM G M hi hl hk hI).congr (fun j _=>by omega) (fun _ _ _ _ h=>h),by rw[Al];exact h.lf,fun j hj hn hkj=>?_,fun t ht h0=>?_,h.aw⟩
 ·rw[kR hlt];by_cases e:j=n
  ·rw[e,if_pos rfl]
  ·have hv:=h.fv j hj (by omega) hkj;split
   ·rename_i e2;have:=(mX G M hj (h.s.lk j hj (by omega)) hkj);have e3:(nodeAt g (eB m n)).info=(nodeAt g (eB m j)).info:=by omega
    rw[←e3] at hv;rw[←hF (by rw[hv];exact(G.inf j hj hkj).1),hv]
   ·exact hv
 ·rw[kR hlt] at h0;split at h0
  ·exact⟨n,hi,by omega,hk,by omega⟩
  ·obtain⟨j,a,b,c⟩:=h.fw t ht h0;exact⟨j,a,by omega,c⟩
theorem fC.kids(G:fC g):∀j,j<g.nodes.length→∀k,k<(nodeAt g j).next.length→(j:Int)<(nodeAt g j).next.getD k 0∧(nodeAt g j).next.getD k 0<g.nodes.length:=fun j hj k hk=>by
 obtain⟨T,_,hTl,hW⟩:=G.walk;have hm:(nodeAt g j).next.getD k 0∈(nodeAt g j).next:=by rw[Ad,Ac hk];exact Bh _
 have:=hW.cf j (by omega) _ (by rw[An,fO];exact hm);omega
theorem fC.only(G:fC g){j k j' k':Nat}(hj:j<g.nodes.length)(hk:k<(nodeAt g j).next.length)(hj':j'<g.nodes.length)(hk':k'<(nodeAt g j').next.length)(e:(nodeAt g j).next.getD k 0=(nodeAt g j').next.getD k' 0):j=j'∧k=k':=by
 obtain⟨T,_,hTl,hW⟩:=G.walk;have mem:∀ {j k:Nat},k<(nodeAt g j).next.length→(nodeAt g j).next.getD k 0∈(nodeAt g j).next:=fun {j k} hk=>by rw[Ad,Ac hk];exact Bh _
 have h1:=(hW.cf j (by omega) _ (by rw[An,fO];exact mem hk)).2.2;have h2:=(hW.cf j' (by omega) _ (by rw[An,fO];exact mem hk')).2.2;rw[e,h2] at h1;have hjj:j=j':=by have:=Bk h1;omega
 subst hjj;have hinc:=hW.inc j (by omega);rw[An,fO] at hinc;refine⟨rfl,?_⟩;rw[Ad,Ad,Ac hk,Ac hk'] at e;have e:(nodeAt g j).next[k]=(nodeAt g j).next[k']:=e;rcases Eu k k' with h | h | h
 ·have:=Dg.1 hinc k k' hk hk' h;omega
 ·exact h
 ·have:=Dg.1 hinc k' k hk' hk h;omega
theorem fV.kid(G:fC g)(h:fV g m n n I F A){i k:Nat}(hi:i<g.nodes.length)(hkl:k<(nodeAt g i).next.length)(hc:(nodeAt g i).next.getD k 0=(n:Int))(h0:0≤iM g m i k)(hw:yJ g m i k)(hk:(nodeAt g i).kind≠2):fV g m n (n+1) I F A:=
 ⟨(h.s.kid h0 hw hk).congr (fun _ _=>Iff.rfl) (fun j k' hj hk' h=>by
  by_cases e:(nodeAt g j).next.getD k' 0=(n:Int)
  ·exact .inr (G.only hj hk' hi hkl (by rw[e,hc]))
  ·exact .inl (by omega)),h.lf,h.fv,h.fw,fun s hs k hk h0=>by obtain⟨j,a,b,c,d,e⟩:=h.aw s hs k hk h0;exact⟨j,a,b,c,d,by omega⟩⟩
theorem fV.kidM(G:fC g)(h:fV g m n n I F A){i k:Nat}(hi:i<g.nodes.length)(hkl:k<(nodeAt g i).next.length)(hc:(nodeAt g i).next.getD k 0=(n:Int))(h0:0≤iM g m i k)(hw:yJ g m i k)(hk:(nodeAt g i).kind=2)
  (hA:0≤(A.getD (nodeAt g i).info.toNat []).getD k 0→(A.getD (nodeAt g i).info.toNat []).getD k 0=iM g m i k):fV g m n (n+1) I F (A.set (nodeAt g i).info.toNat ((A.getD (nodeAt g i).info.toNat []).set k (iM g m i k))):=by
 obtain⟨a1,a2,a3⟩:=G.inf i hi hk;have hlt:(nodeAt g i).info.toNat<A.length:=by rw[h.s.la];omega
 have hls:=h.s.ls (nodeAt g i).info.toNat (by omega);rw[show(((nodeAt g i).info.toNat:Nat):Int)=(nodeAt g i).info by omega,a3] at hls;refine⟨(h.s.kidM G hi hkl h0 hw hk fun j hj hWj hkj e=>?_).congr (fun _ _=>Iff.rfl) (fun j k' hj hk' h=>?_),h.lf,h.fv,h.fw,fun s hs k' hk' h0'=>?_⟩
 ·have b3:=(G.inf j hj hkj).2.2;rw[e,a3] at b3;obtain⟨c1,_,c3⟩:=h.s.kd j k hj (by omega) hWj;have:=c3 hkj;rw[e] at this;exact hA (by rw[this];exact c1)
 ·by_cases e:(nodeAt g j).next.getD k' 0=(n:Int)
  ·exact .inr (G.only hj hk' hi hkl (by rw[e,hc]))
  ·exact .inl (by omega)
 ·have hold:k'<(A.getD s []).length→0≤(A.getD s []).getD k' 0→∃j,j<g.nodes.length∧(nodeAt g j).kind=2∧(nodeAt g j).info=(s:Int)∧k'<(nodeAt g j).next.length∧(nodeAt g j).next.getD k' 0<((n+1:Nat):Int):=fun h1 h2=>by
   obtain⟨j,a,b,c,d,e⟩:=h.aw s hs k' h1 h2;exact⟨j,a,b,c,d,by omega⟩
  rw[qE hlt] at hk' h0';split at hk'
  ·rename_i e;rw[if_pos e] at h0';rw[Al] at hk';rw[kR (by omega)] at h0';split at h0'
   ·rename_i e2;subst e2;exact⟨i,hi,hk,by clear hold hA h0' hk' h;omega,hkl,by rw[hc];exact Int.ofNat_lt.2 (Dy n)⟩
   ·rw[e] at hk' h0';exact hold hk' h0'
  ·rename_i e;rw[if_neg e] at h0';exact hold hk' h0'
theorem fV.no_from(h:fV g m n e I F A)(G:fC g)(M:xI g m){i:Nat}(hi:i<g.nodes.length)(hl:aAS g m i)(hk:(nodeAt g i).kind=2)(h0:0≤F.getD (nodeAt g (eB m i)).info.toNat 0)(h1:F.getD (nodeAt g (eB m i)).info.toNat 0≠(nodeAt g i).info):¬fT g m:=fun a=>by
 obtain⟨b1,b2⟩:=mX G M hi hl hk;obtain⟨j,c1,c2,c3,c4⟩:=h.fw _ (by omega) h0;have e:(nodeAt g (eB m j)).info=(nodeAt g (eB m i)).info:=by omega
 have:=h.fv j c1 c2 c3;rw[e] at this;exact h1 (this.trans (a.inj j i c1 hi c3 hk e))
theorem fV.no_act(h:fV g m n e I F A)(G:fC g){i k:Nat}(hi:i<g.nodes.length)(hk:(nodeAt g i).kind=2)(hkl:k<(nodeAt g i).next.length)(h0:0≤(A.getD (nodeAt g i).info.toNat []).getD k 0)(h1:(A.getD (nodeAt g i).info.toNat []).getD k 0≠iM g m i k):¬fT g m:=by
 obtain⟨a1,a2,a3⟩:=G.inf i hi hk;have hls:=h.s.ls (nodeAt g i).info.toNat (by omega);rw[show(((nodeAt g i).info.toNat:Nat):Int)=(nodeAt g i).info by omega,a3] at hls;obtain⟨j,b1,b2,b3,b4,b5⟩:=h.aw (nodeAt g i).info.toNat (by omega) k (by omega) h0;exact h.s.no_act G hi b1 hk b2 (by omega) hkl b5 h1
def yN(g:aW):List (List Int):=g.infos.map fun x=>List.replicate x.actions.toNat (-1)
theorem fV.start(G:fC g)(m:List Int):fV g m 0 1 (List.replicate g.infos.length (-1)) (List.replicate g.infos.length (-1)) (yN g):=by
 have hrep:∀ (n t:Nat),t<n→¬0≤(List.replicate n (-1:Int)).getD t 0:=fun n t ht h0=>by
  rw[Ad,Cx,if_pos ht] at h0;exact absurd h0 (by decide)
 have hun:∀s,s<g.infos.length→(yN g).getD s []=List.replicate (infoAt g (s:Int)).actions.toNat (-1):=fun s hs=>by
  unfold yN infoAt;rw[Ad,Az,Ad,Bf,Ac hs];rfl
 refine⟨⟨Ao ..,by unfold yN;rw[Bc],fun s hs=>?_,fun j _ hj=>by omega,fun s hs h0=>absurd h0 (hrep _ _ hs),fun j _ hj=>by omega,fun j k hj hk hw=>?_⟩,Ao ..,fun j _ hj=>by omega,fun t ht h0=>absurd h0 (hrep _ _ ht),fun s hs k hk h0=>?_⟩
 ·obtain⟨f1,f2,f3⟩:=G.fst s hs;have hac:=(G.inf _ f1 f2).2.2;rw[f3] at hac;rw[hun s hs,Ao];omega
 ·have:=(G.kids j hj k hk).1;omega
 ·rw[hun s hs] at hk h0;rw[Ao] at hk;exact absurd h0 (hrep _ _ hk)
theorem fV.full(h:fV g m g.nodes.length g.nodes.length I F A)(G:fC g)(M:xI g m)(root:m.getD 0 0=0):fT g m∧I=imgI g m∧A=imgA g m:=by
 have hS:Seen g m (fun _=>True) (fun _ _=>True) I A:=h.s.congr (fun j hj=>⟨fun _=>trivial,fun _=>hj⟩) fun j k hj hk _=>(G.kids j hj k hk).2;refine⟨hS.auto G root fun i j hi hj hki hkj e=>?_,hS.imgI G,hS.imgA G⟩;rw[←h.fv i hi hi hki,←h.fv j hj hj hkj,e]
end
theorem aJN{g:aW}{m:List Int}{T:List cC}(hW:WF (dB g) 0 (-1) T)(hT:T.length=g.nodes.length)(M:xI g m){i k:Nat}(hi:i<g.nodes.length)(hv:((nodeAt g i).next.getD k 0).toNat<g.nodes.length):
  ((T.map (·.1)).getD (eB m ((nodeAt g i).next.getD k 0).toNat) 0=((eB m i:Nat):Int)→0≤iM g m i k∧iM g m i k=(jM g).getD (eB m ((nodeAt g i).next.getD k 0).toNat) 0)∧((T.map (·.1)).getD (eB m ((nodeAt g i).next.getD k 0).toNat) 0≠((eB m i:Nat):Int)→¬0≤iM g m i k):=by
 obtain⟨hve,hvN⟩:=M.at hv;have hti:=(M.at hi).2;unfold iM;rw[hve];generalize eB m ((nodeAt g i).next.getD k 0).toNat=v at *;generalize eB m i=t at *;have hpar:(T.map (·.1)).getD v 0=(gP T v).getD 0:=by
  unfold gP;rw[Ad,Az]
 have hsome:∃p,gP T v=some p:=by
  unfold gP;rw[Ac (show v<T.length by omega)];exact⟨_,rfl⟩
 obtain⟨p,hp⟩:=hsome;rw[hpar,hp];constructor
 ·intro h;have h:p=(t:Int):=h;subst h;by_cases v0:v=0
  ·subst v0;rw[hW.root] at hp;have:=Bk hp;omega
  obtain⟨q,q1,q2,q3⟩:=hW.pf v (by omega) (by omega);rw[hp] at q2;have hq:=Bk q2;have hqt:q=t:=by omega
  subst hqt;rw[An,An,fO] at q3;rcases lS (c:=((v:Nat):Int)) (l:=(nodeAt g q).next) (s:=0) with⟨h1,h2⟩ | ⟨j,h1,h2,_⟩
  ·exact absurd q3 h2
  ·have hpl:=aGW hW hT hti (k:=j) (c:=((v:Nat):Int)) (by rw[fO];exact h2);rw[Bf] at hpl;rw[h1,hpl,An];exact⟨by omega,rfl⟩
 ·intro h h0;have h:p≠(t:Int):=h;rcases lS (c:=((v:Nat):Int)) (l:=(nodeAt g t).next) (s:=0) with⟨h1,h2⟩ | ⟨j,h1,h2,_⟩
  ·rw[h1] at h0;exact absurd h0 (by decide)
  ·have:=(hW.cf t (by omega) _ (by rw[An,fO];exact Bm h2)).2.2;rw[show((v:Nat):Int).toNat - 0=v by omega,hp,An] at this;exact h (Bk this)
end Go.Ev.Gl
