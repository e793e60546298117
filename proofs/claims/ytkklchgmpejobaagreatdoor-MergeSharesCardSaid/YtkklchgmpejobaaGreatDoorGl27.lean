import Derived.Test.YtkklchgmpejobaaGreatDoorGl26
open Nat renaming reduceEqDiff → rE, reduceAdd → rA
set_option maxHeartbeats 16000000
set_option linter.unusedSimpArgs false
set_option linter.unusedVariables false
namespace Go.Ev.Gl
variable {fns:T cW}
section
variable {g:bJ}{F:List Nat}{C:List Int}
def lT(C:List Int)(v:Nat):Nat:=(C.getD v 0).toNat
theorem iV.at_(h:iV g (htL g) F C){v:Nat}(hv:v<g.nodes.length):∃q,F[lT C v]? =some q∧C.getD v 0=((lT C v:Nat):Int)∧q<g.nodes.length∧oG g q=true∧EqS g q v:=by
 obtain⟨p,q,h1,h2,h3⟩:=h.cls v hv;obtain⟨m1,m2⟩:=h.mem (Ar h1);have e:lT C v=p:=by unfold lT;rw[h2];rfl
 exact⟨q,by rw[e];exact h1,by rw[e];exact h2,m1,m2,h3⟩
theorem iV.nodup(h:iV g (htL g) F C){i j q:Nat}(hi:F[i]? =some q)(hj:F[j]? =some q):i=j:=by
 have hr:((List.range g.nodes.length).filter (oG g)).Nodup:=List.nodup_range.filter _;have hn:F.Nodup:=h.perm.nodup_iff.2 hr;have a:=(Ae.1 hi).1;exact(List.getElem?_inj a hn).1 (hi.trans hj.symm)
theorem aFy(hK:dI g)(h:iV g (htL g) F C){a b:Nat}(ha:a<g.nodes.length)(hb:b<g.nodes.length):C.getD a 0=C.getD b 0↔EqS g a b:=by
 obtain⟨q,a1,a2,a3,a4,a5⟩:=h.at_ ha;obtain⟨r,b1,b2,b3,b4,b5⟩:=h.at_ hb;constructor
 ·intro e;have e2:lT C a=lT C b:=by unfold lT;rw[e]
  rw[e2,b1] at a1;have e3:r=q:=Ch a1;exact kJ hK a ha r b3 b hb (qB hK r b3 a ha (by rw[e3];exact a5)) b5
 ·intro e;have e2:EqS g q r:=kJ hK q a3 b hb r b3 (kJ hK q a3 a ha b hb a5 e) (qB hK r b3 b hb b5);have e3:=pR hK a3 b3 a4 b4 e2;rw[a2,b2,h.nodup a1 (by rw[e3];exact b1)]
theorem aNU(hK:dI g)(h:iV g (htL g) F C){a b:Nat}(ha:a<g.nodes.length)(hb:b<g.nodes.length)(e:EqS g a b):iL g C a=iL g C b:=by
 obtain⟨⟨e1,e2,e3,e4,e5⟩,e6,e7⟩:=(mM hK ha hb).1 e;have en:(nodeAt g a).next.map (fun c=>C.getD c.toNat 0)=(nodeAt g b).next.map fun c=>C.getD c.toNat 0:=by
  refine Ej (by rw[Ay,Ay,e6]) fun i i1 i2=>?_;rw[Ay] at i1 i2;rw[Ei,Ei];obtain⟨k1,k2,k3⟩:=hK a ha i i1;obtain⟨k4,k5,k6⟩:=hK b hb i i2;have ea:(nodeAt g a).next[i].toNat=iI g a i:=by unfold iI;rw[Ag,Ad i1];rfl
  have eb:(nodeAt g b).next[i].toNat=iI g b i:=by unfold iI;rw[Ag,Ad i2];rfl
  rw[ea,eb];exact(aFy hK h k2 k5).2 (e7 i i1)
 exact aAU e1 e2 e3 en e4 e5
theorem aAy(hK:dI g)(h:iV g (htL g) F C){v:Nat}(hv:v<g.nodes.length):lT C v<(fN g F C).nodes.length∧nodeAt (fN g F C) (lT C v)=iL g C v:=by
 obtain⟨q,h1,h2,h3,h4,h5⟩:=h.at_ hv;have e:(fN g F C).nodes[lT C v]? =some (iL g C q):=by
  show(F.map (iL g C))[lT C v]? =_;rw[Bf,h1];rfl
 exact⟨(Ae.1 e).1,(lQ e).trans (aNU hK h h3 hv h5)⟩
theorem aGZ{u:Nat→Nat→List bP}{rec:Nat→Option (List fO)}(hu:∀r L,rec r=some L→u (lT C r) r=(g.nodes.drop r).take L.length∧r+L.length≤g.nodes.length):∀ {l:List Int} {r:Nat} {L:List fO},gT rec l r=some L→iN u (l.map fun c=>C.getD c.toNat 0) r=(l,(g.nodes.drop r).take L.length)
 | [],r,L,h=>by
  cases h;rfl
 | c::l,r,L,h=>by
  simp only[gT] at h;split at h
  ·rename_i hc;obtain⟨L1,h1,h2⟩:=Di.1 h;obtain⟨L2,h3,rfl⟩:=Au.1 h2;obtain⟨e1,e2⟩:=hu r L1 h1;have ih:=aGZ hu h3;have ec:(C.getD c.toNat 0).toNat=lT C r:=by rw[hc];rfl
   have el:((g.nodes.drop r).take L1.length).length=L1.length:=by rw[Bz,Da];omega
   rw[Ce];unfold iN;rw[ec,e1,el,ih,←hc,Ai];refine Prod.ext rfl ?_;show(g.nodes.drop r).take L1.length++(g.nodes.drop (r+L1.length)).take L2.length=_;rw[←List.drop_drop,←List.take_add]
  ·cases h
theorem aHt(hK:dI g)(h:iV g (htL g) F C):∀ {f at_:Nat} {p d:Int} {L:List fO},jF g.nodes.length (jK g) f at_ p d=some L→qQ (fN g F C) f (lT C at_) at_=(g.nodes.drop at_).take L.length
 | 0,_,_,_,_,hw=>by cases hw
 | f+1,a,p,d,L,hw=>by
  simp only[jF] at hw;split at hw
  ·rename_i hlt;obtain⟨L',h1,rfl⟩:=Au.1 hw;have ha:a<g.nodes.length:=hlt;obtain⟨_,e⟩:=aAy hK h ha;rw[sN] at h1;have hk:=aGZ (g:=g) (C:=C) (u:=qQ (fN g F C) f) (fun r L hr=>⟨aHt hK h hr,(xH hr).1⟩) h1;have en:(iL g C a).next=(nodeAt g a).next.map fun c=>C.getD c.toNat 0:=rfl;unfold qQ;rw[e,en,hk];have ed:g.nodes.drop a=nodeAt g a::g.nodes.drop (a+1):=by
    rw[Dt ha];congr 1;have:=dK ha;rw[Ad ha] at this;exact Ch this
   rw[ed,An,Bk];rfl
  ·cases hw
theorem aIW(hK:dI g):∀a,a<g.nodes.length→∀b,b<g.nodes.length→EqS g a b→qR g a=qR g b:=qM fun a ha ih b hb e=>by
 obtain⟨_,e6,e7⟩:=(mM hK ha hb).1 e;rw[aDE hK ha,aDE hK hb];have en:(nodeAt g a).next.map (fun c=>qR g c.toNat)=(nodeAt g b).next.map fun c=>qR g c.toNat:=by
  refine Ej (by rw[Ay,Ay,e6]) fun i i1 i2=>?_;rw[Ay] at i1 i2;rw[Ei,Ei];obtain⟨k1,k2,k3⟩:=hK a ha i i1;obtain⟨k4,k5,k6⟩:=hK b hb i i2;have ea:(nodeAt g a).next[i].toNat=iI g a i:=by unfold iI;rw[Ag,Ad i1];rfl
  have eb:(nodeAt g b).next[i].toNat=iI g b i:=by unfold iI;rw[Ag,Ad i2];rfl
  rw[ea,eb];exact ih _ k1 k2 _ k5 (e7 i i1)
 have key:∀ (l m:List Int) (z:Int),l.map (fun c=>qR g c.toNat)=m.map (fun c=>qR g c.toNat)→l.foldl (fun m c=>mx m (qR g c.toNat+1)) z=m.foldl (fun m c=>mx m (qR g c.toNat+1)) z:=fun l=>by
  induction l with
  | nil=>
   intro m z h;cases m with
   | nil=>rfl
   | cons c m=>cases h
  | cons c l ih=>
   intro m z h;cases m with
   | nil=>cases h
   | cons d m=>
    rw[Ce,Ce,Et] at h;rw[Dx,Dx,h.1];exact ih m _ h.2
 exact key _ _ _ en
theorem aJr(hK:dI g){a:Nat}(ha:a<g.nodes.length){c:Int}(hc:c∈(nodeAt g a).next):qR g c.toNat<qR g a:=by
 rw[aDE hK ha];have:=(aCg (fun c=>qR g c.toNat+1) (nodeAt g a).next 0).2 c hc;omega
theorem aGP(G:yC g):∀v,v<g.nodes.length→0<v→qR g v<qR g 0:=by
 have hK:=jJ G;obtain⟨T,hT,hl,hw⟩:=G.walk;have key:∀v,v<g.nodes.length→qR g v≤qR g 0∧(0<v→qR g v<qR g 0):=fun v=>by
  induction v using Nat.strongRecOn with
  | _ v ih=>
   intro hv;by_cases h0:v=0
   ·subst h0;exact⟨Int.le_refl _,fun h=>absurd h (Nat.lt_irrefl _)⟩
   ·obtain⟨q,h1,h2,h3⟩:=hw.pf v (by omega) (by omega);rw[Ao,Ao,sN] at h3;have:=aJr hK (show q<g.nodes.length by omega) h3;rw[Db] at this;have:=(ih q h1 (by omega)).1;exact⟨by omega,fun _=>by omega⟩
 exact fun v h1 h2=>(key v h1).2 h2
theorem iV.lt(hK:dI g)(h:iV g (htL g) F C){i j q r:Nat}(hi:F[i]? =some q)(hj:F[j]? =some r)(hh:qR g r<qR g q):i<j:=by
 obtain⟨i1,i2⟩:=Ae.1 hi;obtain⟨j1,j2⟩:=Ae.1 hj;have hq:=(h.mem (Ar hi)).1;have hr:=(h.mem (Ar hj)).1;rcases Nat.lt_trichotomy i j with e | e | e
 ·exact e
 ·subst e;rw[hi] at hj;cases hj;omega
 ·have:=Dr.1 h.srt j i j1 i1 e;rw[i2,j2] at this;unfold bef at this;rw[xG hq,xG hr] at this;omega
theorem aBz(G:yC g)(h:iV g (htL g) F C):oF (fN g F C)∧lT C 0=0:=by
 have hK:=jJ G;have h0:=G.n1;have lnF:(fN g F C).nodes.length=F.length:=Ay ..;obtain⟨q0,a1,a2,a3,a4,a5⟩:=h.at_ h0;have e0:q0=0:=by
  by_cases e:q0=0
  ·exact e
  ·have:=aGP G q0 a3 (by omega);have:=aIW hK q0 a3 0 h0 a5;omega
 subst e0;have c0:lT C 0=0:=by
  rcases Cd (lT C 0) with e | e
  ·exact e
  ·have lt:=(Ae.1 a1).1;obtain⟨r,hr⟩:∃r,F[0]? =some r:=⟨_,Ad (by omega)⟩;have hrl:=(h.mem (Ar hr)).1;by_cases er:r=0
   ·subst er;exact(h.nodup a1 hr)
   ·have:=h.lt hK a1 hr (aGP G r hrl (by omega));omega
 refine⟨⟨?_,?_,fun j j1 j2=>?_⟩,c0⟩
 ·rw[lnF];exact Dl (Cb _) (Ae.1 a1).1
 ·refine uX.2 fun a ha c hc=>?_;obtain⟨q,hq⟩:∃q,F[a]? =some q:=⟨_,Ad (by rw[←lnF];exact ha)⟩;have hql:=(h.mem (Ar hq)).1;have en:nodeAt (fN g F C) a=iL g C q:=lQ (by show(F.map _)[a]? =_;rw[Bf,hq];rfl);rw[en] at hc;obtain⟨k,hk,rfl⟩:=En.1 hc;obtain⟨_,k2⟩:=lD (hK:=hK) hql hk;obtain⟨r,r1,r2,r3,r4,r5⟩:=h.at_ k2;have hh:=aJr hK hql hk;rw[←aIW hK r r3 _ k2 r5] at hh;have:=h.lt hK hq r1 hh;have:=(Ae.1 r1).1;rw[r2,lnF];omega
 ·obtain⟨q,hq⟩:∃q,F[j]? =some q:=⟨_,Ad (by rw[←lnF];exact j2)⟩;obtain⟨hql,hqf⟩:=h.mem (Ar hq);have hq0:0<q:=by
   rcases Cd q with e | e
   ·subst e;have:=h.nodup hq a1;omega
   ·exact e
  obtain⟨T,hT,hl,hw⟩:=G.walk;obtain⟨u,u1,_,u3⟩:=hw.pf q hq0 (by omega);rw[Ao,Ao,sN] at u3;have hul:u<g.nodes.length:=by omega
  obtain⟨m1,m2⟩:=aAy hK h hul;refine⟨lT C u,m1,?_⟩;rw[m2];refine En.2 ⟨_,u3,?_⟩;rw[Db];obtain⟨r,r1,r2,r3,r4,r5⟩:=h.at_ hql;obtain rfl:=pR hK r3 hql r4 hqf r5;rw[r2,h.nodup r1 hq]
theorem aHl(G:yC g)(h:iV g (htL g) F C):jD (fN g F C)=g∧lR (fN g F C) 0=g.nodes.length:=by
 have hK:=jJ G;obtain⟨hL,c0⟩:=aBz G h;obtain⟨T,hT,hl,hw⟩:=G.walk;have hu:=aHt hK h hT;rw[c0] at hu;have lF:(fN g F C).nodes.length≤g.nodes.length:=by
  show(F.map _).length≤_;rw[Ay,h.perm.length_eq];have:=oI g g.nodes.length;unfold mI at this;exact this
 have e:qQ (fN g F C) (fN g F C).nodes.length 0 0=g.nodes:=by
  rw[aCI hL.2.1 (f':=g.nodes.length+1) hL.1 (by omega) (by omega),hu,hl,Cq,Cg]
 have e2:jD (fN g F C)=g:=by
  unfold jD;rw[e];rfl
 exact⟨e2,by rw[←aGl,e2]⟩
theorem aJK(hf:gG g=0)(h:iV g (htL g) F C):uC (fN g F C)=0∧aEf (fN g F C)=g:=by
 have G:=pG hf;obtain⟨e1,e2⟩:=aHl G h;have he:uC (fN g F C)=0:=aJi (aBz G h).1 (by rw[e2];exact G.n2) ⟨by rw[e1];exact hf,by unfold aHQ;rw[e1];exact⟨F,C,h,rfl⟩⟩;refine⟨he,?_⟩;unfold aEf;rw[if_pos he,e1]
end
theorem aGn{S:St}{v:AV}{h:bJ}(H:Has fns)(hv:mA S v h)(hT:aH4 h)(hN:h.nodes.length≤100000)(h10:iO S):fR fns (.fn 10 [] []) [v] S fun r X=>r= .int .i64 (uC h)∧Same S X:=by
 have hv0:=hv;obtain⟨nv,iv,rfl,hn,hi⟩:=hv;refine cD H.f10 (by simp) ?_;simp only[↓aA,aB,rE,↓reduceIte,rA];refine cC ?_;refine dR (by simp only[↓aA,aB,rE,↓reduceIte];exact bK _) ?_;intro S1 s1 n1 c1;simp only[↓aA,aB,rE,↓reduceIte,rA];have lagg:dB (.ptr S.nx 0) true 3 S1.h=some (.agg [.int .i64 h.players,nv,iv]):=jG c1;refine cC ?_;simp only[↓aA,aB,rE,↓reduceIte,rA,lagg];refine bB ?_;simp only[↓aA,aB,rE,↓reduceIte,rA];refine aN (aAK H (hv0.same s1) hT hN (h10.same s1)) ?_;rintro _ X ⟨gv,rfl,sX,hg⟩;obtain⟨a,b,rfl,_⟩:=hg X (Af _) fun _ _ _=>rfl;simp only[↓aA,aB,rE,↓reduceIte,rA,ex0,ex1];refine cS ?_;intro X1 t1 m1 d1;try simp only[↓aA,aB,rE,↓reduceIte,rA]
 refine fA (b:=X.nx) (cs':=[.int .i64 (aEf h).players,a,b]) (by simp only[↓aA,aB,rE,↓reduceIte,rA]) (by simp only[↓aA,aB,rE,↓reduceIte,rA];exact bK _) d1 rfl rfl ?_;intro X2 t2 m2 d2;simp only[↓aA,aB,rE,↓reduceIte,rA];refine cC ?_;simp only[↓aA,aB,rE,↓reduceIte,rA];refine aT ?_;simp only[↓aA,aB,rE,↓reduceIte,rA];exact(s1.trans sX).trans (t2.same t1 (Af _))
theorem aKe{g:bJ}(h:gG g=0):aH4 g:=by
 have G:=pG h;refine⟨by have:=G.ni;omega,fun x hx=>?_⟩;obtain⟨j,hj,rfl⟩:=List.mem_iff_getElem.1 hx;have e:nodeAt g j=g.nodes[j]:=lQ (Ad hj);have a:=G.nxt j hj;have b:=(qA h j hj).2;have c:=G.pay j hj;rw[e] at a b c;omega
theorem aCs{S:St}{a b c a' b' c':AV}{x y:bP}(H:Has fns)(x1:bT .i64 S a x.next)(x2:bT .i64 S b x.weights)(x3:bT .i64 S c x.pay)(y1:bT .i64 S a' y.next)(y2:bT .i64 S b' y.weights)(y3:bT .i64 S c' y.pay)(l1:x.next.length≤140737488355328)(l2:x.weights.length≤140737488355328)(l3:x.pay.length≤140737488355328):
  fR fns (.fn 24 [] []) [.agg [.int .i64 x.kind,.int .i64 x.player,.int .i64 x.info,a,b,c],.agg [.int .i64 y.kind,.int .i64 y.player,.int .i64 y.info,a',b',c']] S fun r X=>(∃t,r= .bool t∧(t=true↔x=y))∧Same S X:=by
 refine cD H.f24 (by simp) ?_;simp only[↓aA,aB,rE,↓reduceIte,rA];refine cC ?_;refine dR (by simp only[↓aA,aB,rE,↓reduceIte,rA];exact bK _) ?_;intro S1 s1 n1 c1;simp only[↓aA,aB,rE,↓reduceIte,rA];refine dR (by simp only[↓aA,aB,rE,↓reduceIte,rA];exact bK _) ?_;intro S2 s2 n2 c2;simp only[↓aA,aB,rE,↓reduceIte,rA];have s12:=s1.trans s2;have d1:=(s2.2 _ (show S.nx<S1.nx by omega)).trans c1;have no:∀ {p:Prop},p→(x=y→¬p)→(false=true↔x=y):=fun {p} hp hn=>⟨(fun e=>by cases e),fun e=>absurd hp (hn e)⟩;refine cC ?_;by_cases h1:x.kind=y.kind;rotate_left
 ·simp only[↓aA,aB,rE,↓reduceIte,rA,aE,aF,fF d1,fF c2,Aa h1];refine aT ?_;simp only[↓aA,aB,rE,↓reduceIte,rA];exact⟨⟨false,rfl,no h1 fun e h=>h (by rw[e])⟩,s12⟩
 by_cases h2:x.player=y.player;rotate_left
 ·simp only[↓aA,aB,rE,↓reduceIte,rA,aE,aF,fF d1,fF c2,eJ d1,eJ c2,Ac h1,Aa h2];refine aT ?_;simp only[↓aA,aB,rE,↓reduceIte,rA];exact⟨⟨false,rfl,no h2 fun e h=>h (by rw[e])⟩,s12⟩
 by_cases h3:x.info=y.info;rotate_left
 ·simp only[↓aA,aB,rE,↓reduceIte,rA,aE,aF,fF d1,fF c2,eJ d1,eJ c2,fE d1,fE c2,Ac h1,Ac h2,Aa h3];refine aT ?_;simp only[↓aA,aB,rE,↓reduceIte,rA];exact⟨⟨false,rfl,no h3 fun e h=>h (by rw[e])⟩,s12⟩
 simp only[↓aA,aB,rE,↓reduceIte,rA,aE,aF,fF d1,fF c2,eJ d1,eJ c2,fE d1,fE c2,fK d1,fK c2,Ac h1,Ac h2,Ac h3];refine bB ?_;simp only[↓aA,aB,rE,↓reduceIte,rA];refine aN (rH H (x1.same s12) (y1.same s12) l1) ?_;rintro _ Y ⟨rfl,sY⟩;have s3:=s12.trans sY;have d3:=(sY.2 _ (show S.nx<S2.nx by omega)).trans d1;have e3:=(sY.2 _ (show S1.nx<S2.nx by omega)).trans c2;by_cases h4:x.next=y.next;rotate_left
 ·simp only[↓aA,aB,rE,↓reduceIte,rA,Aa h4];refine aT ?_;simp only[↓aA,aB,rE,↓reduceIte,rA];exact⟨⟨false,rfl,no h4 fun e h=>h (by rw[e])⟩,s3⟩
 simp only[↓aA,aB,rE,↓reduceIte,rA,aE,aF,fZ d3,fZ e3,Ac h4];refine bB ?_;simp only[↓aA,aB,rE,↓reduceIte,rA];refine aN (rH H (x2.same s3) (y2.same s3) l2) ?_;rintro _ Z ⟨rfl,sZ⟩;have s4:=s3.trans sZ;have nY:=sY.1;have d4:=(sZ.2 _ (show S.nx<Y.nx by omega)).trans d3;have e4:=(sZ.2 _ (show S1.nx<Y.nx by omega)).trans e3;by_cases h5:x.weights=y.weights;rotate_left
 ·simp only[↓aA,aB,rE,↓reduceIte,rA,Aa h5];refine aT ?_;simp only[↓aA,aB,rE,↓reduceIte,rA];exact⟨⟨false,rfl,no h5 fun e h=>h (by rw[e])⟩,s4⟩
 simp only[↓aA,aB,rE,↓reduceIte,rA,aE,aF,fV d4,fV e4,Ac h5];refine bB ?_;simp only[↓aA,aB,rE,↓reduceIte,rA];refine aN (rH H (x3.same s4) (y3.same s4) l3) ?_;rintro _ V ⟨rfl,sV⟩;by_cases h6:x.pay=y.pay
 ·simp only[↓aA,aB,rE,↓reduceIte,rA,Ac h6];refine aT ?_;simp only[↓aA,aB,rE,↓reduceIte,rA];exact⟨⟨true,rfl,fun _=>aAU h1 h2 h3 h4 h5 h6,fun _=>rfl⟩,s4.trans sV⟩
 ·simp only[↓aA,aB,rE,↓reduceIte,rA,Aa h6];refine aT ?_;simp only[↓aA,aB,rE,↓reduceIte,rA];exact⟨⟨false,rfl,no h6 fun e h=>h (by rw[e])⟩,s4.trans sV⟩
section
variable {S0 X X':St}{m m' m'':UyS}
end
end Go.Ev.Gl
