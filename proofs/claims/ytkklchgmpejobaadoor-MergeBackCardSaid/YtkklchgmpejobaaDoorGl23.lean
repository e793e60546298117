import Derived.Test.YtkklchgmpejobaaDoorGl22
open Nat renaming reduceEqDiff → rE, reduceAdd → rA
set_option maxHeartbeats 16000000
set_option linter.unusedSimpArgs false
set_option linter.unusedVariables false
namespace Go.Ev.Gl
open Go.Sort
variable {fns:T dB}
end Go.Ev.Gl
namespace Go.Ev.Gl
open Go.Sort
variable {fns:T dB}
def aNz(g m:bM):Prop:=(gM g=0→∃F C,kQ g (htL g) F C∧m=jA g F C)∧(gM g≠0→m=⟨0,[],[]⟩)
theorem aKw{F:Fr}{h:Ev.T AB}:hJ (.build [.int .i64 0,.nilsl,.nilsl] []) F h=some (.agg [.int .i64 0,.nilsl,.nilsl]):=rfl
end Go.Ev.Gl
namespace Go.Ev.Gl
open Go.Sort
variable {fns:T dB}
theorem aBM{S:St}{nv iv:AV}{g:bM}(H:Has fns)(hn:aY 6 dD S nv g.nodes)(hi:aY 2 dM S iv g.infos)(hln:g.nodes.length≤100000)(hL:jW S):fP fns (.fn 11 [] []) [.agg [.int .i64 g.players,nv,iv]] S fun r X=>∃mv,r= .tup [mv,.int .i64 (gM g)]∧Same S X∧∃m,nN X mv m∧aNz g m:=by
 refine cC H.f11 (by simp) ?_;simp only[↓aA,aB,rE,↓reduceIte,rA];refine cD ?_;refine dJ (by simp only[↓aA,aB,rE,↓reduceIte];exact bK _) ?_;intro S1 s1 n1 c1;refine cR ?_;intro S2 s2 n2 c2;simp only[↓aA,aB,rE,↓reduceIte];have g2:=(s2.2 _ (show S.nx<S1.nx by omega)).trans c1;have s12:=s1.trans s2;have lagg:cW (.ptr S.nx 0) true 3 S2.h=some (.agg [.int .i64 g.players,nv,iv]):=gS g2;refine jB ?_;simp only[↓aA,aB,rE,↓reduceIte,lagg];refine bB ?_;try simp only[↓aA,aB,rE,↓reduceIte]
 refine aN (aEA H (aY.same (E:=dD) cO hn s12) (aY.same (E:=dM) dF hi s12) hln) ?_;rintro _ Y ⟨rfl,hY⟩;have cY:=(hY.2 _ (show S.nx<S2.nx by omega)).trans g2;have rY:=(hY.2 _ (show S1.nx<S2.nx by omega)).trans c2;have nY:=hY.1;have laggY:cW (.ptr S.nx 0) true 3 Y.h=some (.agg [.int .i64 g.players,nv,iv]):=gS cY;have sSY:=s12.trans hY;try simp only[↓aA,aB,rE,↓reduceIte]
 refine cD ?_;simp only[↓aA,aB,rE,↓reduceIte];by_cases he:gM g=0
 ·refine aO (by simp only[↓aA,aB,rE,↓reduceIte,he];exact Dj _ (Aa (by omega))) (aM ?_);try simp only[↓aA,aB,rE,↓reduceIte]
  refine cD ?_;simp only[↓aA,aB,rE,↓reduceIte,laggY];refine bB ?_;try simp only[↓aA,aB,rE,↓reduceIte]
  refine aN (aBO H (tS he) (hL.same sSY) (fun i hi=>(wF he i hi).1) (fun i hi=>(wF he i hi).2) ⟨nv,iv,rfl,aY.same (E:=dD) cO hn sSY,aY.same (E:=dM) dF hi sSY⟩) ?_;rintro r Z ⟨hZ,F,C,hC,hNew⟩;obtain⟨mn,mi,rfl,k1,k2⟩:=hNew Z (Ag _) (fun _ _ _=>rfl);have rZ:=(hZ.2 _ (show S1.nx<Y.nx by omega)).trans rY;have sSZ:=sSY.trans hZ;try simp only[↓aA,aB,rE,↓reduceIte]
  refine fB (b:=S1.nx) (cs':=[.int .i64 (jA g F C).players,mn,mi]) (by simp only[↓aA,aB,rE,↓reduceIte]) (by simp only[↓aA,aB,rE,↓reduceIte];exact bK _) rZ rfl rfl ?_;intro X x nx gx;simp only[↓aA,aB,rE,↓reduceIte];refine aU ?_;have hng:∀c,c<Z.nx→c≠S1.nx→X.h.get c=Z.h.get c:=x.2;simp only[↓aA,aB,rE,↓reduceIte,fU,ld3 gx];rw[he];exact⟨_,rfl,x.same sSZ (by omega),jA g F C,hNew X x.1 fun c h1 h2=>hng c h2 (by omega),fun _=>⟨F,C,hC,rfl⟩,fun h=>absurd he h⟩
 ·refine aT (by simp only[↓aA,aB,rE,↓reduceIte];exact Dj _ (Ac he)) (aC (aE ?_));simp only[↓aA,aB,rE,↓reduceIte,aKw];refine fB (b:=S1.nx) (cs':=[.int .i64 0,.nilsl,.nilsl]) (by simp only[↓aA,aB,rE,↓reduceIte]) (by simp only[↓aA,aB,rE,↓reduceIte];exact bK _) rY rfl rfl ?_;intro X x nx gx;simp only[↓aA,aB,rE,↓reduceIte];refine aU ?_;simp only[↓aA,aB,rE,↓reduceIte,fU,ld3 gx];exact⟨_,rfl,x.same sSY (by omega),⟨0,[],[]⟩,⟨_,_,rfl,.inl ⟨rfl,.inl rfl⟩,.inl ⟨rfl,.inl rfl⟩⟩,fun h=>absurd h he,fun _=>rfl⟩
end Go.Ev.Gl
namespace Go.Ev.Gl
open Go.Sort
variable {fns:T dB}
theorem aGO{g m m':bM}(h:aNz g m)(h':aNz g m'):m=m':=by
 by_cases he:gM g=0
 ·obtain⟨F,C,hc,e1⟩:=h.1 he;obtain⟨F',C',hc',e2⟩:=h'.1 he;obtain⟨e3,e4⟩:=aCF (lQ (tS he)) hc hc';rw[e1,e2,e3,e4]
 ·rw[h.2 he,h'.2 he]
theorem aJq{g m:bM}(h:aNz g m):aHk m∧m.nodes.length≤100000:=by
 by_cases he:gM g=0
 ·obtain⟨F,C,hC,rfl⟩:=h.1 he;have G:=tS he;have hN:=G.n2;have hI:=G.ni;refine⟨⟨by show g.infos.length * 16≤_;omega,fun x hx=>?_⟩,?_⟩
  ·obtain⟨q,hq,rfl⟩:=Ej.1 hx;obtain⟨q1,_⟩:=hC.mem hq;have h1:=G.nxt q q1;have h2:=(wF he q q1).2;have h3:=G.pay q q1;refine⟨?_,?_,?_⟩
   ·show((nodeAt g q).next.map fun c=>C.getD c.toNat 0).length * 8≤_;rw[Bc];omega
   ·show(nodeAt g q).weights.length * 8≤_;omega
   ·show(nodeAt g q).pay.length * 8≤_;omega
  ·show(F.map (pP g C)).length≤100000;have:=hC.perm.length_eq;have h2:=sO g g.nodes.length;unfold nC at h2;rw[Bc];omega
 ·rw[h.2 he];refine⟨⟨by simp,fun x hx=>by cases hx⟩,by simp⟩
theorem aHB{S:St}{nv iv mv jv:AV}{m:bM}(H:Has fns)(hn:aY 6 dD S nv m.nodes)(hi:aY 2 dM S iv m.infos)(hm:aY 6 dD S mv m.nodes)(hj:aY 2 dM S jv m.infos)(hT:aHk m)(hln:m.nodes.length≤100000):fP fns (.fn 14 [] []) [.agg [.int .i64 m.players,nv,iv],.agg [.int .i64 m.players,mv,jv]] S fun r S'=>r= .bool true∧Same S S':=by
 refine cC H.f14 (by simp) ?_;simp only[↓aA,aB,rE,↓reduceIte,rA];refine cD ?_;refine dJ (cs:=[.int .i64 m.players,nv,iv]) rfl ?_;intro S1 s1 n1 c1;refine dJ (cs:=[.int .i64 m.players,mv,jv]) (by simp only[↓aA,aB,rE,↓reduceIte];rfl) ?_;intro S2 s2 n2 c2;have c1':=(s2.2 _ (show S.nx<S1.nx by omega)).trans c1;have s12:=s1.trans s2;have l1:cW (.ptr S.nx 0) true 3 S2.h=some (.agg [.int .i64 m.players,nv,iv]):=gS c1';have l2:cW (.ptr S1.nx 0) true 3 S2.h=some (.agg [.int .i64 m.players,mv,jv]):=gS c2;simp only[↓aA,aB,rE,↓reduceIte];refine cD ?_;simp only[↓aA,aB,rE,↓reduceIte,l1,l2];refine bB ?_;try simp only[↓aA,aB,rE,↓reduceIte]
 refine aN (vX H (aY.same (E:=dD) cO hn s12) (aY.same (E:=dM) dF hi s12) (aY.same (E:=dD) cO hm s12) (aY.same (E:=dM) dF hj s12) hT hln) ?_;rintro _ Y ⟨rfl,hY⟩;try simp only[↓aA,aB,rE,↓reduceIte]
 refine aU ?_;simp only[↓aA,aB,rE,↓reduceIte];exact s12.trans hY
end Go.Ev.Gl
namespace Go.Ev.Gl
open Go.Sort
variable {fns:T dB}
end Go.Ev.Gl
