import Derived.Test.YtkklchgmpejobaaGreatDoorGl22
open Nat renaming reduceEqDiff → rE, reduceAdd → rA
set_option maxHeartbeats 16000000
set_option linter.unusedSimpArgs false
set_option linter.unusedVariables false
namespace Go.Ev.Gl
open Go.Sort
variable {fns:T cV}
end Go.Ev.Gl
namespace Go.Ev.Gl
open Go.Sort
variable {fns:T cV}
def aQm(g m:bH):Prop:=(iH g=0→∃F C,jN g (htL g) F C∧m=hJ g F C)∧(iH g≠0→m=⟨0,[],[]⟩)
theorem aMV{F:Fr}{h:Ev.T AB}:iI (.build [.int .i64 0,.nilsl,.nilsl] []) F h=some (.agg [.int .i64 0,.nilsl,.nilsl]):=rfl
end Go.Ev.Gl
namespace Go.Ev.Gl
open Go.Sort
variable {fns:T cV}
theorem aGP{S:St}{nv iv:AV}{g:bH}(H:Has fns)(hn:bB 6 dJ S nv g.nodes)(hi:bB 2 fP S iv g.infos)(hln:g.nodes.length≤100000)(hL:kA S):fR fns (.fn 9 [] []) [.agg [.int .i64 g.players,nv,iv]] S fun r X=>∃mv,r= .tup [mv,.int .i64 (iH g)]∧Same S X∧∃m,nS X mv m∧aQm g m:=by
 refine cE H.f9 (by simp) ?_;refine ah ?_;refine cC ?_;refine eH (by simp only[↓aA,aB,rE,↓reduceIte];exact bM _) ?_;intro S1 s1 n1 c1;refine cR ?_;intro S2 s2 n2 c2;simp only[↓aA,aB,rE,↓reduceIte];have g2:=(s2.2 _ (show S.nx<S1.nx by omega)).trans c1;have s12:=s1.trans s2;have lagg:dB (.ptr S.nx 0) true 3 S2.h=some (.agg [.int .i64 g.players,nv,iv]):=lQ g2;refine iP ?_;simp only[↓aA,aB,rE,↓reduceIte,lagg];refine aY ?_;try simp only[↓aA,aB,rE,↓reduceIte]
 refine aP (aEV H (bB.same (E:=dJ) cT hn s12) (bB.same (E:=fP) fO hi s12) hln) ?_;rintro _ Y ⟨rfl,hY⟩;have cY:=(hY.2 _ (show S.nx<S2.nx by omega)).trans g2;have rY:=(hY.2 _ (show S1.nx<S2.nx by omega)).trans c2;have nY:=hY.1;have laggY:dB (.ptr S.nx 0) true 3 Y.h=some (.agg [.int .i64 g.players,nv,iv]):=lQ cY;have sSY:=s12.trans hY;try simp only[↓aA,aB,rE,↓reduceIte]
 refine cC ?_;simp only[↓aA,aB,rE,↓reduceIte];by_cases he:iH g=0
 ·refine aO (by simp only[↓aA,aB,rE,↓reduceIte,he];exact Dh _ (Aa (by omega))) (aM ?_);try simp only[↓aA,aB,rE,↓reduceIte]
  refine cC ?_;simp only[↓aA,aB,rE,↓reduceIte,laggY];refine aY ?_;try simp only[↓aA,aB,rE,↓reduceIte]
  refine aP (aBX H (uF he) (hL.same sSY) (fun i hi=>(wO he i hi).1) (fun i hi=>(wO he i hi).2) ⟨nv,iv,rfl,bB.same (E:=dJ) cT hn sSY,bB.same (E:=fP) fO hi sSY⟩) ?_;rintro r Z ⟨hZ,F,C,hC,hNew⟩;obtain⟨mn,mi,rfl,k1,k2⟩:=hNew Z (Ag _) (fun _ _ _=>rfl);have rZ:=(hZ.2 _ (show S1.nx<Y.nx by omega)).trans rY;have sSZ:=sSY.trans hZ;try simp only[↓aA,aB,rE,↓reduceIte]
  refine fC (b:=S1.nx) (cs':=[.int .i64 (hJ g F C).players,mn,mi]) (ae) (by simp only[↓aA,aB,rE,↓reduceIte];exact bM _) rZ rfl rfl ?_;intro X x nx gx;refine ac ?_;refine aU ?_;have hng:∀c,c<Z.nx→c≠S1.nx→X.h.get c=Z.h.get c:=x.2;simp only[↓aA,aB,rE,↓reduceIte,fZ,ld3 gx];rw[he];exact⟨_,rfl,x.same sSZ (by omega),hJ g F C,hNew X x.1 fun c h1 h2=>hng c h2 (by omega),fun _=>⟨F,C,hC,rfl⟩,fun h=>absurd he h⟩
 ·refine aR (by simp only[↓aA,aB,rE,↓reduceIte];exact Dh _ (Ad he)) (aC (aG ?_));simp only[↓aA,aB,rE,↓reduceIte,aMV];refine fC (b:=S1.nx) (cs':=[.int .i64 0,.nilsl,.nilsl]) (ae) (by simp only[↓aA,aB,rE,↓reduceIte];exact bM _) rY rfl rfl ?_;intro X x nx gx;refine ac ?_;refine aU ?_;simp only[↓aA,aB,rE,↓reduceIte,fZ,ld3 gx];exact⟨_,rfl,x.same sSY (by omega),⟨0,[],[]⟩,⟨_,_,rfl,.inl ⟨rfl,.inl rfl⟩,.inl ⟨rfl,.inl rfl⟩⟩,fun h=>absurd h he,fun _=>rfl⟩
end Go.Ev.Gl
namespace Go.Ev.Gl
open Go.Sort
variable {fns:T cV}
theorem aKP{g m:bH}(h:aQm g m):aJB m∧m.nodes.length≤100000:=by
 by_cases he:iH g=0
 ·obtain⟨F,C,hC,rfl⟩:=h.1 he;have G:=uF he;have hN:=G.n2;have hI:=G.ni;refine⟨⟨by show g.infos.length * 16≤_;omega,fun x hx=>?_⟩,?_⟩
  ·obtain⟨q,hq,rfl⟩:=Dz.1 hx;obtain⟨q1,_⟩:=hC.mem hq;have h1:=G.nxt q q1;have h2:=(wO he q q1).2;have h3:=G.pay q q1;refine⟨?_,?_,?_⟩
   ·show((nodeAt g q).next.map fun c=>C.getD c.toNat 0).length * 8≤_;rw[Az];omega
   ·show(nodeAt g q).weights.length * 8≤_;omega
   ·show(nodeAt g q).pay.length * 8≤_;omega
  ·show(F.map (lK g C)).length≤100000;have:=hC.perm.length_eq;have h2:=qA g g.nodes.length;unfold nF at h2;rw[Az];omega
 ·rw[h.2 he];refine⟨⟨by simp,fun x hx=>by cases hx⟩,by simp⟩
end Go.Ev.Gl
namespace Go.Ev.Gl
open Go.Sort
variable {fns:T cV}
end Go.Ev.Gl
