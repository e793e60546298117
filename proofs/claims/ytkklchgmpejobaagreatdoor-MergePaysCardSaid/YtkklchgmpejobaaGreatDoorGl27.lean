import Derived.Test.YtkklchgmpejobaaGreatDoorGl26
open Nat renaming reduceEqDiff → rE, reduceAdd → rA
set_option maxHeartbeats 16000000
set_option linter.unusedSimpArgs false
set_option linter.unusedVariables false
namespace Go.Ev.Gl
variable {fns:T cV}
section
variable {g:bH}{F:List Nat}{C:List Int}
def rR(C:List Int)(v:Nat):Nat:=(C.getD v 0).toNat
theorem jN.at_(h:jN g (htL g) F C){v:Nat}(hv:v<g.nodes.length):∃q,F[rR C v]? =some q∧C.getD v 0=((rR C v:Nat):Int)∧q<g.nodes.length∧oM g q=true∧EqS g q v:=by
 obtain⟨p,q,h1,h2,h3⟩:=h.cls v hv;obtain⟨m1,m2⟩:=h.mem (Aq h1);have e:rR C v=p:=by unfold rR;rw[h2];rfl
 exact⟨q,by rw[e];exact h1,by rw[e];exact h2,m1,m2,h3⟩
theorem jN.nodup(h:jN g (htL g) F C){i j q:Nat}(hi:F[i]? =some q)(hj:F[j]? =some q):i=j:=by
 have hr:((List.range g.nodes.length).filter (oM g)).Nodup:=List.nodup_range.filter _;have hn:F.Nodup:=h.perm.nodup_iff.2 hr;have a:=(Af.1 hi).1;exact(List.getElem?_inj a hn).1 (hi.trans hj.symm)
theorem aOM(hK:eF g)(h:jN g (htL g) F C){a b:Nat}(ha:a<g.nodes.length)(hb:b<g.nodes.length):C.getD a 0=C.getD b 0↔EqS g a b:=by
 obtain⟨q,a1,a2,a3,a4,a5⟩:=h.at_ ha;obtain⟨r,b1,b2,b3,b4,b5⟩:=h.at_ hb;constructor
 ·intro e;have e2:rR C a=rR C b:=by unfold rR;rw[e]
  rw[e2,b1] at a1;have e3:r=q:=Cl a1;exact kK hK a ha r b3 b hb (pU hK r b3 a ha (by rw[e3];exact a5)) b5
 ·intro e;have e2:EqS g q r:=kK hK q a3 b hb r b3 (kK hK q a3 a ha b hb a5 e) (pU hK r b3 b hb b5);have e3:=uT hK a3 b3 a4 b4 e2;rw[a2,b2,h.nodup a1 (by rw[e3];exact b1)]
theorem aNv(hK:eF g)(h:jN g (htL g) F C){a b:Nat}(ha:a<g.nodes.length)(hb:b<g.nodes.length)(e:EqS g a b):lK g C a=lK g C b:=by
 obtain⟨⟨e1,e2,e3,e4,e5⟩,e6,e7⟩:=(oY hK ha hb).1 e;have en:(nodeAt g a).next.map (fun c=>C.getD c.toNat 0)=(nodeAt g b).next.map fun c=>C.getD c.toNat 0:=by
  refine Eb (by rw[Az,Az,e6]) fun i i1 i2=>?_;rw[Az] at i1 i2;rw[Em,Em];obtain⟨k1,k2,k3⟩:=hK a ha i i1;obtain⟨k4,k5,k6⟩:=hK b hb i i2;have ea:(nodeAt g a).next[i].toNat=jA g a i:=by unfold jA;rw[Ae,Ab i1];rfl
  have eb:(nodeAt g b).next[i].toNat=jA g b i:=by unfold jA;rw[Ae,Ab i2];rfl
  rw[ea,eb];exact(aOM hK h k2 k5).2 (e7 i i1)
 exact aES e1 e2 e3 en e4 e5
theorem aAw(hK:eF g)(h:jN g (htL g) F C){v:Nat}(hv:v<g.nodes.length):rR C v<(hJ g F C).nodes.length∧nodeAt (hJ g F C) (rR C v)=lK g C v:=by
 obtain⟨q,h1,h2,h3,h4,h5⟩:=h.at_ hv;have e:(hJ g F C).nodes[rR C v]? =some (lK g C q):=by
  show(F.map (lK g C))[rR C v]? =_;rw[Be,h1];rfl
 exact⟨(Af.1 e).1,(nO e).trans (aNv hK h h3 hv h5)⟩
theorem aHj{u:Nat→Nat→List bU}{rec:Nat→Option (List dH)}(hu:∀r L,rec r=some L→u (rR C r) r=(g.nodes.drop r).take L.length∧r+L.length≤g.nodes.length):∀ {l:List Int} {r:Nat} {L:List dH},iE rec l r=some L→iO u (l.map fun c=>C.getD c.toNat 0) r=(l,(g.nodes.drop r).take L.length)
 | [],r,L,h=>by
  cases h;rfl
 | c::l,r,L,h=>by
  simp only[iE] at h;split at h
  ·rename_i hc;obtain⟨L1,h1,h2⟩:=Dl.1 h;obtain⟨L2,h3,rfl⟩:=Au.1 h2;obtain⟨e1,e2⟩:=hu r L1 h1;have ih:=aHj hu h3;have ec:(C.getD c.toNat 0).toNat=rR C r:=by rw[hc];rfl
   have el:((g.nodes.drop r).take L1.length).length=L1.length:=by rw[Cc,Cq];omega
   rw[Cx];unfold iO;rw[ec,e1,el,ih,←hc,Ai];refine Prod.ext rfl ?_;show(g.nodes.drop r).take L1.length++(g.nodes.drop (r+L1.length)).take L2.length=_;rw[←List.drop_drop,←List.take_add]
  ·cases h
theorem aHw(hK:eF g)(h:jN g (htL g) F C):∀ {f at_:Nat} {p d:Int} {L:List dH},iQ g.nodes.length (iU g) f at_ p d=some L→qB (hJ g F C) f (rR C at_) at_=(g.nodes.drop at_).take L.length
 | 0,_,_,_,_,hw=>by cases hw
 | f+1,a,p,d,L,hw=>by
  simp only[iQ] at hw;split at hw
  ·rename_i hlt;obtain⟨L',h1,rfl⟩:=Au.1 hw;have ha:a<g.nodes.length:=hlt;obtain⟨_,e⟩:=aAw hK h ha;rw[pM] at h1;have hk:=aHj (g:=g) (C:=C) (u:=qB (hJ g F C) f) (fun r L hr=>⟨aHw hK h hr,(xE hr).1⟩) h1;have en:(lK g C a).next=(nodeAt g a).next.map fun c=>C.getD c.toNat 0:=rfl;unfold qB;rw[e,en,hk];have ed:g.nodes.drop a=nodeAt g a::g.nodes.drop (a+1):=by
    rw[Di ha];congr 1;have:=dI ha;rw[Ab ha] at this;exact Cl this
   rw[ed,Am,Bk];rfl
  ·cases hw
theorem aIP(hK:eF g):∀a,a<g.nodes.length→∀b,b<g.nodes.length→EqS g a b→qU g a=qU g b:=tA fun a ha ih b hb e=>by
 obtain⟨_,e6,e7⟩:=(oY hK ha hb).1 e;rw[aCW hK ha,aCW hK hb];have en:(nodeAt g a).next.map (fun c=>qU g c.toNat)=(nodeAt g b).next.map fun c=>qU g c.toNat:=by
  refine Eb (by rw[Az,Az,e6]) fun i i1 i2=>?_;rw[Az] at i1 i2;rw[Em,Em];obtain⟨k1,k2,k3⟩:=hK a ha i i1;obtain⟨k4,k5,k6⟩:=hK b hb i i2;have ea:(nodeAt g a).next[i].toNat=jA g a i:=by unfold jA;rw[Ae,Ab i1];rfl
  have eb:(nodeAt g b).next[i].toNat=jA g b i:=by unfold jA;rw[Ae,Ab i2];rfl
  rw[ea,eb];exact ih _ k1 k2 _ k5 (e7 i i1)
 have key:∀ (l m:List Int) (z:Int),l.map (fun c=>qU g c.toNat)=m.map (fun c=>qU g c.toNat)→l.foldl (fun m c=>mx m (qU g c.toNat+1)) z=m.foldl (fun m c=>mx m (qU g c.toNat+1)) z:=fun l=>by
  induction l with
  | nil=>
   intro m z h;cases m with
   | nil=>rfl
   | cons c m=>cases h
  | cons c l ih=>
   intro m z h;cases m with
   | nil=>cases h
   | cons d m=>
    rw[Cx,Cx,Ex] at h;rw[Ea,Ea,h.1];exact ih m _ h.2
 exact key _ _ _ en
theorem aI1(hK:eF g){a:Nat}(ha:a<g.nodes.length){c:Int}(hc:c∈(nodeAt g a).next):qU g c.toNat<qU g a:=by
 rw[aCW hK ha];have:=(aBJ (fun c=>qU g c.toNat+1) (nodeAt g a).next 0).2 c hc;omega
theorem aHe(G:qP g):∀v,v<g.nodes.length→0<v→qU g v<qU g 0:=by
 have hK:=iW G;obtain⟨T,hT,hl,hw⟩:=G.walk;have key:∀v,v<g.nodes.length→qU g v≤qU g 0∧(0<v→qU g v<qU g 0):=fun v=>by
  induction v using Nat.strongRecOn with
  | _ v ih=>
   intro hv;by_cases h0:v=0
   ·subst h0;exact⟨Int.le_refl _,fun h=>absurd h (Nat.lt_irrefl _)⟩
   ·obtain⟨q,h1,h2,h3⟩:=hw.pf v (by omega) (by omega);rw[Ao,Ao,pM] at h3;have:=aI1 hK (show q<g.nodes.length by omega) h3;rw[Cj] at this;have:=(ih q h1 (by omega)).1;exact⟨by omega,fun _=>by omega⟩
 exact fun v h1 h2=>(key v h1).2 h2
theorem jN.lt(hK:eF g)(h:jN g (htL g) F C){i j q r:Nat}(hi:F[i]? =some q)(hj:F[j]? =some r)(hh:qU g r<qU g q):i<j:=by
 obtain⟨i1,i2⟩:=Af.1 hi;obtain⟨j1,j2⟩:=Af.1 hj;have hq:=(h.mem (Aq hi)).1;have hr:=(h.mem (Aq hj)).1;rcases Nat.lt_trichotomy i j with e | e | e
 ·exact e
 ·subst e;rw[hi] at hj;cases hj;omega
 ·have:=Dw.1 h.srt j i j1 i1 e;rw[i2,j2] at this;unfold bef at this;rw[xT hq,xT hr] at this;omega
theorem xM(G:qP g)(h:jN g (htL g) F C):pQ (hJ g F C)∧rR C 0=0:=by
 have hK:=iW G;have h0:=G.n1;have lnF:(hJ g F C).nodes.length=F.length:=Az ..;obtain⟨q0,a1,a2,a3,a4,a5⟩:=h.at_ h0;have e0:q0=0:=by
  by_cases e:q0=0
  ·exact e
  ·have:=aHe G q0 a3 (by omega);have:=aIP hK q0 a3 0 h0 a5;omega
 subst e0;have c0:rR C 0=0:=by
  rcases Ca (rR C 0) with e | e
  ·exact e
  ·have lt:=(Af.1 a1).1;obtain⟨r,hr⟩:∃r,F[0]? =some r:=⟨_,Ab (by omega)⟩;have hrl:=(h.mem (Aq hr)).1;by_cases er:r=0
   ·subst er;exact(h.nodup a1 hr)
   ·have:=h.lt hK a1 hr (aHe G r hrl (by omega));omega
 refine⟨⟨?_,?_,fun j j1 j2=>?_⟩,c0⟩
 ·rw[lnF];exact Dn (Bt _) (Af.1 a1).1
 ·refine tV.2 fun a ha c hc=>?_;obtain⟨q,hq⟩:∃q,F[a]? =some q:=⟨_,Ab (by rw[←lnF];exact ha)⟩;have hql:=(h.mem (Aq hq)).1;have en:nodeAt (hJ g F C) a=lK g C q:=nO (by show(F.map _)[a]? =_;rw[Be,hq];rfl);rw[en] at hc;obtain⟨k,hk,rfl⟩:=Dz.1 hc;obtain⟨_,k2⟩:=qN (hK:=hK) hql hk;obtain⟨r,r1,r2,r3,r4,r5⟩:=h.at_ k2;have hh:=aI1 hK hql hk;rw[←aIP hK r r3 _ k2 r5] at hh;have:=h.lt hK hq r1 hh;have:=(Af.1 r1).1;rw[r2,lnF];omega
 ·obtain⟨q,hq⟩:∃q,F[j]? =some q:=⟨_,Ab (by rw[←lnF];exact j2)⟩;obtain⟨hql,hqf⟩:=h.mem (Aq hq);have hq0:0<q:=by
   rcases Ca q with e | e
   ·subst e;have:=h.nodup hq a1;omega
   ·exact e
  obtain⟨T,hT,hl,hw⟩:=G.walk;obtain⟨u,u1,_,u3⟩:=hw.pf q hq0 (by omega);rw[Ao,Ao,pM] at u3;have hul:u<g.nodes.length:=by omega
  obtain⟨m1,m2⟩:=aAw hK h hul;refine⟨rR C u,m1,?_⟩;rw[m2];refine Dz.2 ⟨_,u3,?_⟩;rw[Cj];obtain⟨r,r1,r2,r3,r4,r5⟩:=h.at_ hql;obtain rfl:=uT hK r3 hql r4 hqf r5;rw[r2,h.nodup r1 hq]
theorem aLa(G:qP g)(h:jN g (htL g) F C):jD (hJ g F C)=g∧nM (hJ g F C) 0=g.nodes.length:=by
 have hK:=iW G;obtain⟨hL,c0⟩:=xM G h;obtain⟨T,hT,hl,hw⟩:=G.walk;have hu:=aHw hK h hT;rw[c0] at hu;have lF:(hJ g F C).nodes.length≤g.nodes.length:=by
  show(F.map _).length≤_;rw[Az,h.perm.length_eq];have:=qA g g.nodes.length;unfold nF at this;exact this
 have e:qB (hJ g F C) (hJ g F C).nodes.length 0 0=g.nodes:=by
  rw[aDz hL.2.1 (f':=g.nodes.length+1) hL.1 (by omega) (by omega),hu,hl,Ct,Ch]
 have e2:jD (hJ g F C)=g:=by
  unfold jD;rw[e];rfl
 exact⟨e2,by rw[←aG8,e2]⟩
theorem aKZ(hf:iH g=0)(h:jN g (htL g) F C):aAO (hJ g F C)=0∧aHr (hJ g F C)=g:=by
 have G:=uF hf;obtain⟨e1,e2⟩:=aLa G h;have he:aAO (hJ g F C)=0:=aJj (xM G h).1 (by rw[e2];exact G.n2) ⟨by rw[e1];exact hf,by unfold aH2;rw[e1];exact⟨F,C,h,rfl⟩⟩;refine⟨he,?_⟩;unfold aHr;rw[if_pos he,e1]
end
theorem aHd{S:St}{v:AV}{h:bH}(H:Has fns)(hv:nS S v h)(hT:aJB h)(hN:h.nodes.length≤100000)(h10:kA S):fR fns (.fn 10 [] []) [v] S fun r X=>r= .int .i64 (aAO h)∧Same S X:=by
 have hv0:=hv;obtain⟨nv,iv,rfl,hn,hi⟩:=hv;refine cE H.f10 (by simp) ?_;refine ah ?_;refine cC ?_;refine eH (by simp only[↓aA,aB,rE,↓reduceIte];exact bM _) ?_;intro S1 s1 n1 c1;simp only[↓aA,aB,rE,↓reduceIte,rA];have lagg:dB (.ptr S.nx 0) true 3 S1.h=some (.agg [.int .i64 h.players,nv,iv]):=lQ c1;refine cC ?_;simp only[↓aA,aB,rE,↓reduceIte,rA,lagg];refine aY ?_;refine ah ?_;refine aP (aFY H (hv0.same s1) hT hN (h10.same s1)) ?_;rintro _ X ⟨gv,rfl,sX,hg⟩;obtain⟨a,b,rfl,_⟩:=hg X (Ag _) fun _ _ _=>rfl;simp only[↓aA,aB,rE,↓reduceIte,rA,ex0,ex1];refine cR ?_;intro X1 t1 m1 d1;try simp only[↓aA,aB,rE,↓reduceIte,rA]
 refine fC (b:=X.nx) (cs':=[.int .i64 (aHr h).players,a,b]) (ai) (by simp only[↓aA,aB,rE,↓reduceIte,rA];exact bM _) d1 rfl rfl ?_;intro X2 t2 m2 d2;refine ah ?_;refine cC ?_;refine ah ?_;refine aU ?_;simp only[↓aA,aB,rE,↓reduceIte,rA];exact(s1.trans sX).trans (t2.same t1 (Ag _))
theorem aKi{g:bH}(h:iH g=0):aJB g:=by
 have G:=uF h;refine⟨by have:=G.ni;omega,fun x hx=>?_⟩;obtain⟨j,hj,rfl⟩:=Eq.1 hx;have e:nodeAt g j=g.nodes[j]:=nO (Ab hj);have a:=G.nxt j hj;have b:=(wO h j hj).2;have c:=G.pay j hj;rw[e] at a b c;omega
end Go.Ev.Gl
