import Derived.Test.YtkklchgmpejobaaDoorGl18
open Nat renaming reduceEqDiff → rE, reduceAdd → rA
set_option maxHeartbeats 16000000
set_option linter.unusedSimpArgs false
set_option linter.unusedVariables false
namespace Go.Ev.Gl
open Go.Sort
variable {fns:T cR}
theorem vE{S:St}{nv iv:AV}{g:aZ}(hn:aN 6 bT S nv g.nodes)(hi:aN 2 bZ S iv g.infos):bW (.agg [.int .i64 g.players,nv,iv]) (.agg [.int .i64 g.players,nv,iv])=true:=by
 refine aCJ ?_;have e1:=aN.self hn;have e2:=aN.self hi;simp only[kE,e1,e2,aM];simp [bW,dK,aM,iD]
theorem aCO{S:St}{nv iv:AV}{g:aZ}(H:Has fns)(hn:aN 6 bT S nv g.nodes)(hi:aN 2 bZ S iv g.infos)(hln:g.nodes.length≤100000):fH fns (.fn 7 [] []) [.agg [.int .i64 g.players,nv,iv]] S fun r X=>∃hv,r= .tup [hv,.int .i64 (dR g)]∧Same S X∧bJ .i64 X hv (if dR g=0 then htL g else []):=by
 refine bP H.f7 (by simp) ?_;simp only[↓aA,aB,rE,↓reduceIte,rA];refine bO ?_;refine cW (by simp only[↓aA,aB,rE,↓reduceIte];exact bL _) ?_;intro S1 s1 n1 c1;simp only[↓aA,aB,rE,↓reduceIte];have lagg:cJ (.ptr S.nx 0) true 3 S1.h=some (.agg [.int .i64 g.players,nv,iv]):=fQ c1;refine fZ ?_;simp only[↓aA,aB,rE,↓reduceIte,lagg];refine aV ?_;try simp only[↓aA,aB,rE,↓reduceIte]
 refine aP (zN H (aN.same (E:=bT) bE hn s1) (aN.same (E:=bZ) bQ hi s1) hln) ?_;rintro _ Y ⟨rfl,hY⟩;have cY:=(hY.2 _ (show S.nx<S1.nx by omega)).trans c1;have laggY:cJ (.ptr S.nx 0) true 3 Y.h=some (.agg [.int .i64 g.players,nv,iv]):=fQ cY;have sSY:=s1.trans hY;try simp only[↓aA,aB,rE,↓reduceIte]
 refine bO ?_;simp only[↓aA,aB,rE,↓reduceIte];by_cases he:dR g=0
 ·refine aL (by simp only[↓aA,aB,rE,↓reduceIte,he];exact Ci _ (Aa (by omega))) (aJ ?_);try simp only[↓aA,aB,rE,↓reduceIte]
  refine bO ?_;simp only[↓aA,aB,rE,↓reduceIte,laggY];refine aV ?_;try simp only[↓aA,aB,rE,↓reduceIte]
  refine aP (xS H (jZ he) ⟨nv,iv,rfl,aN.same (E:=bT) bE hn sSY,aN.same (E:=bZ) bQ hi sSY⟩) ?_;rintro r Z ⟨oZ,hZ⟩;try simp only[↓aA,aB,rE,↓reduceIte]
  refine aS ?_;simp only[↓aA,aB,rE,↓reduceIte];rw[he,if_pos rfl];exact⟨_,rfl,sSY.trans hZ,oZ.is⟩
 ·refine aQ (by simp only[↓aA,aB,rE,↓reduceIte];exact Ci _ (Ab he)) (aC (aD ?_));simp only[↓aA,aB,rE,↓reduceIte];refine aS ?_;simp only[↓aA,aB,rE,↓reduceIte];rw[if_neg he];exact⟨_,rfl,sSY,.inl ⟨rfl,.inl rfl⟩⟩
theorem aCM{S:St}{nv iv:AV}{g:aZ}(H:Has fns)(hn:aN 6 bT S nv g.nodes)(hi:aN 2 bZ S iv g.infos)(hln:g.nodes.length≤100000):fH fns (.fn 8 [] []) [.agg [.int .i64 g.players,nv,iv]] S fun r X=>∃hv,r= .tup [hv,.int .i64 (dR g)]∧Same S X∧bJ .i64 X hv (if dR g=0 then htL g else []):=by
 refine bP H.f8 (by simp) ?_;simp only[↓aA,aB,rE,↓reduceIte,rA];refine bO ?_;refine cW (by simp only[↓aA,aB,rE,↓reduceIte];exact bL _) ?_;intro S1 s1 n1 c1;simp only[↓aA,aB,rE,↓reduceIte];have lagg:cJ (.ptr S.nx 0) true 3 S1.h=some (.agg [.int .i64 g.players,nv,iv]):=fQ c1;refine fZ ?_;simp only[↓aA,aB,rE,↓reduceIte,lagg];refine aV ?_;try simp only[↓aA,aB,rE,↓reduceIte]
 refine aP (wA H (aN.same (E:=bT) bE hn s1) (aN.same (E:=bZ) bQ hi s1) hln) ?_;rintro _ Y ⟨rfl,hY⟩;have cY:=(hY.2 _ (show S.nx<S1.nx by omega)).trans c1;have sSY:=s1.trans hY;try simp only[↓aA,aB,rE,↓reduceIte]
 refine bO ?_;simp only[↓aA,aB,rE,↓reduceIte];by_cases he:dR g=0
 ·refine aL (by simp only[↓aA,aB,rE,↓reduceIte,he];exact Ci _ (Aa (by omega))) (aJ ?_);try simp only[↓aA,aB,rE,↓reduceIte]
  refine bO ?_;simp only[↓aA,aB,rE,↓reduceIte,aF,aE,dO cY,aN.self hn];refine aV ?_;try simp only[↓aA,aB,rE,↓reduceIte]
  refine aP (vP H (jZ he) (aN.same (E:=bT) bE hn sSY)) ?_;rintro r Z ⟨oZ,hZ⟩;try simp only[↓aA,aB,rE,↓reduceIte]
  refine aS ?_;simp only[↓aA,aB,rE,↓reduceIte];rw[he,if_pos rfl];exact⟨_,rfl,sSY.trans hZ,oZ.is⟩
 ·refine aQ (by simp only[↓aA,aB,rE,↓reduceIte];exact Ci _ (Ab he)) (aC (aD ?_));simp only[↓aA,aB,rE,↓reduceIte];refine aS ?_;simp only[↓aA,aB,rE,↓reduceIte];rw[if_neg he];exact⟨_,rfl,sSY,.inl ⟨rfl,.inl rfl⟩⟩
end Go.Ev.Gl
namespace Go.Ev.Gl
open Go.Sort
variable {fns:T cR}
def aJS(g:aZ)(C:List Int):Prop:=(dR g=0→∃F,uT g (htL g) F C)∧(dR g≠0→C= [])
def aJg(g m:aZ):Prop:=(dR g=0→∃F C,uT g (htL g) F C∧m=aCo g F C)∧(dR g≠0→m=⟨0,[],[]⟩)
theorem aMI{F:Fr}{h:Ev.T AB}:gB (.build [.int .i64 0,.nilsl,.nilsl] []) F h=some (.agg [.int .i64 0,.nilsl,.nilsl]):=rfl
theorem aCT{S:St}{nv iv:AV}{g:aZ}(H:Has fns)(hn:aN 6 bT S nv g.nodes)(hi:aN 2 bZ S iv g.infos)(hln:g.nodes.length≤100000)(hL:jO S):fH fns (.fn 9 [] []) [.agg [.int .i64 g.players,nv,iv]] S fun r X=>∃hv,r= .tup [hv,.int .i64 (dR g)]∧Same S X∧∃C,bJ .i64 X hv C∧aJS g C:=by
 refine bP H.f9 (by simp) ?_;simp only[↓aA,aB,rE,↓reduceIte,rA];refine bO ?_;refine cW (by simp only[↓aA,aB,rE,↓reduceIte];exact bL _) ?_;intro S1 s1 n1 c1;simp only[↓aA,aB,rE,↓reduceIte];have lagg:cJ (.ptr S.nx 0) true 3 S1.h=some (.agg [.int .i64 g.players,nv,iv]):=fQ c1;refine fZ ?_;simp only[↓aA,aB,rE,↓reduceIte,lagg];refine aV ?_;try simp only[↓aA,aB,rE,↓reduceIte]
 refine aP (zN H (aN.same (E:=bT) bE hn s1) (aN.same (E:=bZ) bQ hi s1) hln) ?_;rintro _ Y ⟨rfl,hY⟩;have cY:=(hY.2 _ (show S.nx<S1.nx by omega)).trans c1;have laggY:cJ (.ptr S.nx 0) true 3 Y.h=some (.agg [.int .i64 g.players,nv,iv]):=fQ cY;have sSY:=s1.trans hY;try simp only[↓aA,aB,rE,↓reduceIte]
 refine bO ?_;simp only[↓aA,aB,rE,↓reduceIte];by_cases he:dR g=0
 ·refine aL (by simp only[↓aA,aB,rE,↓reduceIte,he];exact Ci _ (Aa (by omega))) (aJ ?_);try simp only[↓aA,aB,rE,↓reduceIte]
  refine bO ?_;simp only[↓aA,aB,rE,↓reduceIte,laggY];refine aV ?_;try simp only[↓aA,aB,rE,↓reduceIte]
  refine aP (xP H (jZ he) (hL.same sSY) (fun i hi=>(wS he i hi).1) (fun i hi=>(wS he i hi).2) ⟨nv,iv,rfl,aN.same (E:=bT) bE hn sSY,aN.same (E:=bZ) bQ hi sSY⟩) ?_;rintro _ Z ⟨a,b,F,C,rfl,hZ,hC,iA,iB⟩;try simp only[↓aA,aB,rE,↓reduceIte,ex0,ex1]
  refine bO ?_;simp only[↓aA,aB,rE,↓reduceIte];refine aS ?_;simp only[↓aA,aB,rE,↓reduceIte];rw[he];exact⟨_,rfl,sSY.trans hZ,C,iA,fun _=>⟨F,hC⟩,fun h=>absurd he h⟩
 ·refine aQ (by simp only[↓aA,aB,rE,↓reduceIte];exact Ci _ (Ab he)) (aC (aD ?_));simp only[↓aA,aB,rE,↓reduceIte];refine aS ?_;simp only[↓aA,aB,rE,↓reduceIte];exact⟨_,rfl,sSY,[],.inl ⟨rfl,.inl rfl⟩,fun h=>absurd h he,fun _=>rfl⟩
theorem aBN{S:St}{nv iv:AV}{g:aZ}(H:Has fns)(hn:aN 6 bT S nv g.nodes)(hi:aN 2 bZ S iv g.infos)(hln:g.nodes.length≤100000):fH fns (.fn 10 [] []) [.agg [.int .i64 g.players,nv,iv]] S fun r X=>∃hv,r= .tup [hv,.int .i64 (dR g)]∧Same S X∧∃C,bJ .i64 X hv C∧aJS g C:=by
 refine bP H.f10 (by simp) ?_;simp only[↓aA,aB,rE,↓reduceIte,rA];refine bO ?_;refine cW (by simp only[↓aA,aB,rE,↓reduceIte];exact bL _) ?_;intro S1 s1 n1 c1;simp only[↓aA,aB,rE,↓reduceIte];have lagg:cJ (.ptr S.nx 0) true 3 S1.h=some (.agg [.int .i64 g.players,nv,iv]):=fQ c1;refine fZ ?_;simp only[↓aA,aB,rE,↓reduceIte,lagg];refine aV ?_;try simp only[↓aA,aB,rE,↓reduceIte]
 refine aP (wA H (aN.same (E:=bT) bE hn s1) (aN.same (E:=bZ) bQ hi s1) hln) ?_;rintro _ Y ⟨rfl,hY⟩;have cY:=(hY.2 _ (show S.nx<S1.nx by omega)).trans c1;have sSY:=s1.trans hY;try simp only[↓aA,aB,rE,↓reduceIte]
 refine bO ?_;simp only[↓aA,aB,rE,↓reduceIte];by_cases he:dR g=0
 ·refine aL (by simp only[↓aA,aB,rE,↓reduceIte,he];exact Ci _ (Aa (by omega))) (aJ ?_);try simp only[↓aA,aB,rE,↓reduceIte]
  refine bO ?_;simp only[↓aA,aB,rE,↓reduceIte,aF,aE,dO cY,aN.self hn];refine aV ?_;try simp only[↓aA,aB,rE,↓reduceIte]
  refine aP (vQ H (jZ he) (fun i hi=>(wS he i hi).2) (aN.same (E:=bT) bE hn sSY)) ?_;rintro _ Z ⟨a,b,F,C,rfl,hZ,hC,iA,iB⟩;try simp only[↓aA,aB,rE,↓reduceIte,ex0,ex1]
  refine bO ?_;simp only[↓aA,aB,rE,↓reduceIte];refine aS ?_;simp only[↓aA,aB,rE,↓reduceIte];rw[he];exact⟨_,rfl,sSY.trans hZ,C,iA,fun _=>⟨F,hC⟩,fun h=>absurd he h⟩
 ·refine aQ (by simp only[↓aA,aB,rE,↓reduceIte];exact Ci _ (Ab he)) (aC (aD ?_));simp only[↓aA,aB,rE,↓reduceIte];refine aS ?_;simp only[↓aA,aB,rE,↓reduceIte];exact⟨_,rfl,sSY,[],.inl ⟨rfl,.inl rfl⟩,fun h=>absurd h he,fun _=>rfl⟩
end Go.Ev.Gl
namespace Go.Ev.Gl
open Go.Sort
variable {fns:T cR}
theorem aEt{S:St}{nv iv:AV}{g:aZ}(H:Has fns)(hn:aN 6 bT S nv g.nodes)(hi:aN 2 bZ S iv g.infos)(hln:g.nodes.length≤100000)(hL:jO S):fH fns (.fn 11 [] []) [.agg [.int .i64 g.players,nv,iv]] S fun r X=>∃mv,r= .tup [mv,.int .i64 (dR g)]∧Same S X∧∃m,nR X mv m∧aJg g m:=by
 refine bP H.f11 (by simp) ?_;simp only[↓aA,aB,rE,↓reduceIte,rA];refine bO ?_;refine cW (by simp only[↓aA,aB,rE,↓reduceIte];exact bL _) ?_;intro S1 s1 n1 c1;refine dB ?_;intro S2 s2 n2 c2;simp only[↓aA,aB,rE,↓reduceIte];have g2:=(s2.2 _ (show S.nx<S1.nx by omega)).trans c1;have s12:=s1.trans s2;have lagg:cJ (.ptr S.nx 0) true 3 S2.h=some (.agg [.int .i64 g.players,nv,iv]):=fQ g2;refine fZ ?_;simp only[↓aA,aB,rE,↓reduceIte,lagg];refine aV ?_;try simp only[↓aA,aB,rE,↓reduceIte]
 refine aP (zN H (aN.same (E:=bT) bE hn s12) (aN.same (E:=bZ) bQ hi s12) hln) ?_;rintro _ Y ⟨rfl,hY⟩;have cY:=(hY.2 _ (show S.nx<S2.nx by omega)).trans g2;have rY:=(hY.2 _ (show S1.nx<S2.nx by omega)).trans c2;have nY:=hY.1;have laggY:cJ (.ptr S.nx 0) true 3 Y.h=some (.agg [.int .i64 g.players,nv,iv]):=fQ cY;have sSY:=s12.trans hY;try simp only[↓aA,aB,rE,↓reduceIte]
 refine bO ?_;simp only[↓aA,aB,rE,↓reduceIte];by_cases he:dR g=0
 ·refine aL (by simp only[↓aA,aB,rE,↓reduceIte,he];exact Ci _ (Aa (by omega))) (aJ ?_);try simp only[↓aA,aB,rE,↓reduceIte]
  refine bO ?_;simp only[↓aA,aB,rE,↓reduceIte,laggY];refine aV ?_;try simp only[↓aA,aB,rE,↓reduceIte]
  refine aP (aEB H (jZ he) (hL.same sSY) (fun i hi=>(wS he i hi).1) (fun i hi=>(wS he i hi).2) ⟨nv,iv,rfl,aN.same (E:=bT) bE hn sSY,aN.same (E:=bZ) bQ hi sSY⟩) ?_;rintro r Z ⟨hZ,F,C,hC,hNew⟩;obtain⟨mn,mi,rfl,k1,k2⟩:=hNew Z (Ah _) (fun _ _ _=>rfl);have rZ:=(hZ.2 _ (show S1.nx<Y.nx by omega)).trans rY;have sSZ:=sSY.trans hZ;try simp only[↓aA,aB,rE,↓reduceIte]
  refine gH (b:=S1.nx) (cs':=[.int .i64 (aCo g F C).players,mn,mi]) (by simp only[↓aA,aB,rE,↓reduceIte]) (by simp only[↓aA,aB,rE,↓reduceIte];exact bL _) rZ rfl rfl ?_;intro X x nx gx;simp only[↓aA,aB,rE,↓reduceIte];refine aS ?_;have hng:∀c,c<Z.nx→c≠S1.nx→X.h.get c=Z.h.get c:=x.2;simp only[↓aA,aB,rE,↓reduceIte,gL,ld3 gx];rw[he];exact⟨_,rfl,x.same sSZ (by omega),aCo g F C,hNew X x.1 fun c h1 h2=>hng c h2 (by omega),fun _=>⟨F,C,hC,rfl⟩,fun h=>absurd he h⟩
 ·refine aQ (by simp only[↓aA,aB,rE,↓reduceIte];exact Ci _ (Ab he)) (aC (aD ?_));simp only[↓aA,aB,rE,↓reduceIte,aMI];refine gH (b:=S1.nx) (cs':=[.int .i64 0,.nilsl,.nilsl]) (by simp only[↓aA,aB,rE,↓reduceIte]) (by simp only[↓aA,aB,rE,↓reduceIte];exact bL _) rY rfl rfl ?_;intro X x nx gx;simp only[↓aA,aB,rE,↓reduceIte];refine aS ?_;simp only[↓aA,aB,rE,↓reduceIte,gL,ld3 gx];exact⟨_,rfl,x.same sSY (by omega),⟨0,[],[]⟩,⟨_,_,rfl,.inl ⟨rfl,.inl rfl⟩,.inl ⟨rfl,.inl rfl⟩⟩,fun h=>absurd h he,fun _=>rfl⟩
theorem aD0{S:St}{nv iv:AV}{g:aZ}(H:Has fns)(hn:aN 6 bT S nv g.nodes)(hi:aN 2 bZ S iv g.infos)(hln:g.nodes.length≤100000):fH fns (.fn 12 [] []) [.agg [.int .i64 g.players,nv,iv]] S fun r X=>∃mv,r= .tup [mv,.int .i64 (dR g)]∧Same S X∧∃m,nR X mv m∧aJg g m:=by
 refine bP H.f12 (by simp) ?_;simp only[↓aA,aB,rE,↓reduceIte,rA];refine bO ?_;refine cW (by simp only[↓aA,aB,rE,↓reduceIte];exact bL _) ?_;intro S1 s1 n1 c1;refine dB ?_;intro S2 s2 n2 c2;simp only[↓aA,aB,rE,↓reduceIte];have g2:=(s2.2 _ (show S.nx<S1.nx by omega)).trans c1;have s12:=s1.trans s2;have lagg:cJ (.ptr S.nx 0) true 3 S2.h=some (.agg [.int .i64 g.players,nv,iv]):=fQ g2;refine fZ ?_;simp only[↓aA,aB,rE,↓reduceIte,lagg];refine aV ?_;try simp only[↓aA,aB,rE,↓reduceIte]
 refine aP (wA H (aN.same (E:=bT) bE hn s12) (aN.same (E:=bZ) bQ hi s12) hln) ?_;rintro _ Y ⟨rfl,hY⟩;have cY:=(hY.2 _ (show S.nx<S2.nx by omega)).trans g2;have rY:=(hY.2 _ (show S1.nx<S2.nx by omega)).trans c2;have nY:=hY.1;have laggY:cJ (.ptr S.nx 0) true 3 Y.h=some (.agg [.int .i64 g.players,nv,iv]):=fQ cY;have sSY:=s12.trans hY;try simp only[↓aA,aB,rE,↓reduceIte]
 refine bO ?_;simp only[↓aA,aB,rE,↓reduceIte];by_cases he:dR g=0
 ·refine aL (by simp only[↓aA,aB,rE,↓reduceIte,he];exact Ci _ (Aa (by omega))) (aJ ?_);try simp only[↓aA,aB,rE,↓reduceIte]
  refine bO ?_;simp only[↓aA,aB,rE,↓reduceIte,laggY];refine aV ?_;try simp only[↓aA,aB,rE,↓reduceIte]
  refine aP (aEf H (jZ he) (fun i hi=>(wS he i hi).2) ⟨nv,iv,rfl,aN.same (E:=bT) bE hn sSY,aN.same (E:=bZ) bQ hi sSY⟩) ?_;rintro r Z ⟨hZ,F,C,hC,hNew⟩;obtain⟨mn,mi,rfl,k1,k2⟩:=hNew Z (Ah _) (fun _ _ _=>rfl);have rZ:=(hZ.2 _ (show S1.nx<Y.nx by omega)).trans rY;have sSZ:=sSY.trans hZ;try simp only[↓aA,aB,rE,↓reduceIte]
  refine gH (b:=S1.nx) (cs':=[.int .i64 (aCo g F C).players,mn,mi]) (by simp only[↓aA,aB,rE,↓reduceIte]) (by simp only[↓aA,aB,rE,↓reduceIte];exact bL _) rZ rfl rfl ?_;intro X x nx gx;simp only[↓aA,aB,rE,↓reduceIte];refine aS ?_;have hng:∀c,c<Z.nx→c≠S1.nx→X.h.get c=Z.h.get c:=x.2;simp only[↓aA,aB,rE,↓reduceIte,gL,ld3 gx];rw[he];exact⟨_,rfl,x.same sSZ (by omega),aCo g F C,hNew X x.1 fun c h1 h2=>hng c h2 (by omega),fun _=>⟨F,C,hC,rfl⟩,fun h=>absurd he h⟩
 ·refine aQ (by simp only[↓aA,aB,rE,↓reduceIte];exact Ci _ (Ab he)) (aC (aD ?_));simp only[↓aA,aB,rE,↓reduceIte,aMI];refine gH (b:=S1.nx) (cs':=[.int .i64 0,.nilsl,.nilsl]) (by simp only[↓aA,aB,rE,↓reduceIte]) (by simp only[↓aA,aB,rE,↓reduceIte];exact bL _) rY rfl rfl ?_;intro X x nx gx;simp only[↓aA,aB,rE,↓reduceIte];refine aS ?_;simp only[↓aA,aB,rE,↓reduceIte,gL,ld3 gx];exact⟨_,rfl,x.same sSY (by omega),⟨0,[],[]⟩,⟨_,_,rfl,.inl ⟨rfl,.inl rfl⟩,.inl ⟨rfl,.inl rfl⟩⟩,fun h=>absurd h he,fun _=>rfl⟩
end Go.Ev.Gl
namespace Go.Ev.Gl
open Go.Sort
variable {fns:T cR}
theorem aEE{g:aZ}{C C':List Int}(h:aJS g C)(h':aJS g C'):C=C':=by
 by_cases he:dR g=0
 ·obtain⟨F,h⟩:=h.1 he;obtain⟨F',h'⟩:=h'.1 he;exact(aCy (gF (jZ he)) h h').2
 ·rw[h.2 he,h'.2 he]
theorem aE6{g m m':aZ}(h:aJg g m)(h':aJg g m'):m=m':=by
 by_cases he:dR g=0
 ·obtain⟨F,C,hc,e1⟩:=h.1 he;obtain⟨F',C',hc',e2⟩:=h'.1 he;obtain⟨e3,e4⟩:=aCy (gF (jZ he)) hc hc';rw[e1,e2,e3,e4]
 ·rw[h.2 he,h'.2 he]
theorem aJx{g:aZ}{C:List Int}(h:aJS g C):C.length≤10000000:=by
 by_cases he:dR g=0
 ·obtain⟨F,h⟩:=h.1 he;have:=(jZ he).n2;rw[h.len];omega
 ·rw[h.2 he];simp
theorem aK4{g:aZ}:(if dR g=0 then htL g else []).length≤10000000:=by
 by_cases he:dR g=0
 ·have:=(jZ he).n2;rw[if_pos he,kT];omega
 ·rw[if_neg he];simp
theorem aHv{g m:aZ}(h:aJg g m):aEg m∧m.nodes.length≤100000:=by
 by_cases he:dR g=0
 ·obtain⟨F,C,hC,rfl⟩:=h.1 he;have G:=jZ he;have hN:=G.n2;have hI:=G.ni;refine⟨⟨by show g.infos.length * 16≤_;omega,fun x hx=>?_⟩,?_⟩
  ·obtain⟨q,hq,rfl⟩:=Ea.1 hx;obtain⟨q1,_⟩:=hC.mem hq;have h1:=G.nxt q q1;have h2:=(wS he q q1).2;have h3:=G.pay q q1;refine⟨?_,?_,?_⟩
   ·show((nodeAt g q).next.map fun c=>C.getD c.toNat 0).length * 8≤_;rw[Bm];omega
   ·show(nodeAt g q).weights.length * 8≤_;omega
   ·show(nodeAt g q).pay.length * 8≤_;omega
  ·show(F.map (sP g C)).length≤100000;have:=hC.perm.length_eq;have h2:=tJ g g.nodes.length;unfold lQ at h2;rw[Bm];omega
 ·rw[h.2 he];refine⟨⟨by simp,fun x hx=>by cases hx⟩,by simp⟩
theorem aFY{S:St}{nv iv mv jv:AV}{m:aZ}(H:Has fns)(hn:aN 6 bT S nv m.nodes)(hi:aN 2 bZ S iv m.infos)(hm:aN 6 bT S mv m.nodes)(hj:aN 2 bZ S jv m.infos)(hT:aEg m)(hln:m.nodes.length≤100000):fH fns (.fn 14 [] []) [.agg [.int .i64 m.players,nv,iv],.agg [.int .i64 m.players,mv,jv]] S fun r S'=>r= .bool true∧Same S S':=by
 refine bP H.f14 (by simp) ?_;simp only[↓aA,aB,rE,↓reduceIte,rA];refine bO ?_;refine cW (cs:=[.int .i64 m.players,nv,iv]) rfl ?_;intro S1 s1 n1 c1;refine cW (cs:=[.int .i64 m.players,mv,jv]) (by simp only[↓aA,aB,rE,↓reduceIte];rfl) ?_;intro S2 s2 n2 c2;have c1':=(s2.2 _ (show S.nx<S1.nx by omega)).trans c1;have s12:=s1.trans s2;have l1:cJ (.ptr S.nx 0) true 3 S2.h=some (.agg [.int .i64 m.players,nv,iv]):=fQ c1';have l2:cJ (.ptr S1.nx 0) true 3 S2.h=some (.agg [.int .i64 m.players,mv,jv]):=fQ c2;simp only[↓aA,aB,rE,↓reduceIte];refine bO ?_;simp only[↓aA,aB,rE,↓reduceIte,l1,l2];refine aV ?_;try simp only[↓aA,aB,rE,↓reduceIte]
 refine aP (uJ H (aN.same (E:=bT) bE hn s12) (aN.same (E:=bZ) bQ hi s12) (aN.same (E:=bT) bE hm s12) (aN.same (E:=bZ) bQ hj s12) hT hln) ?_;rintro _ Y ⟨rfl,hY⟩;try simp only[↓aA,aB,rE,↓reduceIte]
 refine aS ?_;simp only[↓aA,aB,rE,↓reduceIte];exact s12.trans hY
end Go.Ev.Gl
namespace Go.Ev.Gl
open Go.Sort
variable {fns:T cR}
theorem aFj{S:St}{nv iv:AV}{g:aZ}(H:Has fns)(hAw:∀X,Same S X→fH fns (.fn 5 [] []) [] X fun r S'=>r= .bool true∧Same X S')(hL:jO S)(hn:aN 6 bT S nv g.nodes)(hi:aN 2 bZ S iv g.infos)(hT:aEg g):
  fH fns (.fn 3 [] []) [.agg [.int .i64 g.players,nv,iv]] S fun r S'=>r= .bool true∧Same S S':=by
 have hsg:=vE hn hi;have dT:∀i:Decidable True,@decide True i=true:=fun i=>@Ab True i trivial;refine bP H.f3 (by simp) ?_;simp only[↓aA,aB,rE,↓reduceIte,rA];refine bO ?_;refine cW (cs:=[.int .i64 g.players,nv,iv]) rfl ?_;intro S1 s1 n1 c1;try simp only[↓aA,aB,rE,↓reduceIte]
 refine fZ ?_;try simp only[↓aA,aB,rE,↓reduceIte]
 refine aV ?_;try simp only[↓aA,aB,rE,↓reduceIte]
 refine aP (hAw S1 s1) ?_;rintro _ S2 ⟨rfl,s2⟩;have c2:=(s2.2 _ (show S.nx<S1.nx by omega)).trans c1;have s12:=s1.trans s2;have nS2:=s2.1;try simp only[↓aA,aB,rE,↓reduceIte,eH,Bi]
 refine aL (by simp only[↓aA,aB,rE,↓reduceIte]) (aJ ?_);try simp only[↓aA,aB,rE,↓reduceIte]
 refine fZ ?_;simp only[↓aA,aB,rE,↓reduceIte,aF,aE,dO c2,aN.self hn,aN.len hn];by_cases hN:(60:Int)<((g.nodes.length:Nat):Int)
 ·refine aQ (by simp only[↓aA,aB,rE,↓reduceIte,Ab hN]) (aC (aD ?_));simp only[↓aA,aB,rE,↓reduceIte];refine aS ?_;simp only[↓aA,aB,rE,↓reduceIte];exact s12
 refine aL (by simp only[↓aA,aB,rE,↓reduceIte,Aa hN]) (aJ ?_);try simp only[↓aA,aB,rE,↓reduceIte]
 have hln:g.nodes.length≤100000:=by omega
 have l2:cJ (.ptr S.nx 0) true 3 S2.h=some (.agg [.int .i64 g.players,nv,iv]):=fQ c2;refine bO ?_;simp only[↓aA,aB,rE,↓reduceIte,l2,hsg];refine aV ?_;try simp only[↓aA,aB,rE,↓reduceIte]
 refine aP (aJX H (aN.same (E:=bT) bE hn s12) (aN.same (E:=bZ) bQ hi s12) hT hln) ?_;rintro _ S3 ⟨s3,mv,jv,rfl,hm,hj⟩;have hso:=vE hm hj;have c3:=(s3.2 _ (show S.nx<S2.nx by omega)).trans c2;have nS3:=s3.1;try simp only[↓aA,aB,rE,↓reduceIte]
 refine dB ?_;intro S4 s4 n4 c4;try simp only[↓aA,aB,rE,↓reduceIte]
 refine gH (b:=S3.nx) (cs':=[.int .i64 g.players,mv,jv]) (by simp only[↓aA,aB,rE,↓reduceIte]) (by simp only[↓aA,aB,rE,↓reduceIte];exact bL _) c4 rfl rfl ?_;intro S5 s5 n5 c5;try simp only[↓aA,aB,rE,↓reduceIte]
 have s35:Same S3 S5:=s5.same s4 (Ah _);have g5:=(s35.2 _ (show S.nx<S3.nx by omega)).trans c3;have sS5:=(s12.trans s3).trans s35;have hn5:=aN.same (E:=bT) bE hn sS5;have hi5:=aN.same (E:=bZ) bQ hi sS5;have hm5:=aN.same (E:=bT) bE hm s35;have hj5:=aN.same (E:=bZ) bQ hj s35;have hL5:=hL.same sS5;have lS:S.nx<S5.nx:=by omega
 have l3:S3.nx<S5.nx:=by omega
 clear c1 c2 c3 c4 l2;have la5:cJ (.ptr S.nx 0) true 3 S5.h=some (.agg [.int .i64 g.players,nv,iv]):=fQ g5;refine bO ?_;simp only[↓aA,aB,rE,↓reduceIte,la5,hsg];refine aV ?_;try simp only[↓aA,aB,rE,↓reduceIte]
 refine aP (aCO H hn5 hi5 hln) ?_;rintro _ S6 ⟨hv,rfl,s6,k6⟩;try simp only[↓aA,aB,rE,↓reduceIte,ex0,ex1]
 have lb6:cJ (.ptr S3.nx 0) true 3 S6.h=some (.agg [.int .i64 g.players,mv,jv]):=fQ ((s6.2 _ l3).trans c5);refine bO ?_;simp only[↓aA,aB,rE,↓reduceIte,lb6,hso];refine aV ?_;try simp only[↓aA,aB,rE,↓reduceIte]
 refine aP (aCM H (aN.same (E:=bT) bE hm5 s6) (aN.same (E:=bZ) bQ hj5 s6) hln) ?_;rintro _ S7 ⟨xhv,rfl,s7,k7⟩;try simp only[↓aA,aB,rE,↓reduceIte,ex0,ex1]
 have s57:=s6.trans s7;have la7:cJ (.ptr S.nx 0) true 3 S7.h=some (.agg [.int .i64 g.players,nv,iv]):=fQ ((s57.2 _ lS).trans g5);refine bO ?_;simp only[↓aA,aB,rE,↓reduceIte,la7,hsg];refine aV ?_;try simp only[↓aA,aB,rE,↓reduceIte]
 refine aP (aCT H (aN.same (E:=bT) bE hn5 s57) (aN.same (E:=bZ) bQ hi5 s57) hln (hL5.same s57)) ?_;rintro _ S8 ⟨cv,rfl,s8,C,kC,rC⟩;try simp only[↓aA,aB,rE,↓reduceIte,ex0,ex1]
 have s58:=s57.trans s8;have lb8:cJ (.ptr S3.nx 0) true 3 S8.h=some (.agg [.int .i64 g.players,mv,jv]):=fQ ((s58.2 _ l3).trans c5);refine bO ?_;simp only[↓aA,aB,rE,↓reduceIte,lb8,hso];refine aV ?_;try simp only[↓aA,aB,rE,↓reduceIte]
 refine aP (aBN H (aN.same (E:=bT) bE hm5 s58) (aN.same (E:=bZ) bQ hj5 s58) hln) ?_;rintro _ S9 ⟨xcv,rfl,s9,C',kC',rC'⟩;obtain rfl:=aEE rC rC';try simp only[↓aA,aB,rE,↓reduceIte,ex0,ex1]
 have s59:=s58.trans s9;have la9:cJ (.ptr S.nx 0) true 3 S9.h=some (.agg [.int .i64 g.players,nv,iv]):=fQ ((s59.2 _ lS).trans g5);refine bO ?_;simp only[↓aA,aB,rE,↓reduceIte,la9,hsg];refine aV ?_;try simp only[↓aA,aB,rE,↓reduceIte]
 refine aP (aEt H (aN.same (E:=bT) bE hn5 s59) (aN.same (E:=bZ) bQ hi5 s59) hln (hL5.same s59)) ?_;rintro _ S10 ⟨_,rfl,s10,m,⟨pn,pi,rfl,kn,ki⟩,rM⟩;try simp only[↓aA,aB,rE,↓reduceIte,ex0,ex1]
 refine dB ?_;intro S11 s11 n11 c11;try simp only[↓aA,aB,rE,↓reduceIte]
 refine gH (b:=S10.nx) (cs':=[.int .i64 m.players,pn,pi]) (by simp only[↓aA,aB,rE,↓reduceIte]) (by simp only[↓aA,aB,rE,↓reduceIte];exact bL _) c11 rfl rfl ?_;intro S12 s12' n12 c12;try simp only[↓aA,aB,rE,↓reduceIte]
 have s1012:Same S10 S12:=s12'.same s11 (Ah _);have s512:=(s59.trans s10).trans s1012;have lb12:cJ (.ptr S3.nx 0) true 3 S12.h=some (.agg [.int .i64 g.players,mv,jv]):=fQ ((s512.2 _ l3).trans c5);refine bO ?_;simp only[↓aA,aB,rE,↓reduceIte,lb12,hso];refine aV ?_;try simp only[↓aA,aB,rE,↓reduceIte]
 refine aP (aD0 H (aN.same (E:=bT) bE hm5 s512) (aN.same (E:=bZ) bQ hj5 s512) hln) ?_;rintro _ S13 ⟨_,rfl,s13,m',⟨qn,qi,rfl,jn,ji⟩,rM'⟩;obtain rfl:=aE6 rM rM';try simp only[↓aA,aB,rE,↓reduceIte,ex0,ex1]
 refine dB ?_;intro S14 s14 n14 c14;try simp only[↓aA,aB,rE,↓reduceIte]
 refine gH (b:=S13.nx) (cs':=[.int .i64 m.players,qn,qi]) (by simp only[↓aA,aB,rE,↓reduceIte]) (by simp only[↓aA,aB,rE,↓reduceIte];exact bL _) c14 rfl rfl ?_;intro S15 s15 n15 c15;try simp only[↓aA,aB,rE,↓reduceIte]
 have s1315:Same S13 S15:=s15.same s14 (Ah _);have s1215:=s13.trans s1315;have s1015:=s1012.trans s1215;have s515:=s512.trans s1215;have c12':S15.h.get S10.nx=some (.cells [.int .i64 m.players,pn,pi] false 0):=(s1215.2 _ (by omega)).trans c12;have n10:S10.nx<S15.nx:=by have:=s1215.1;omega
 have n13:S13.nx<S15.nx:=by omega
 refine bO ?_;try simp only[↓aA,aB,rE,↓reduceIte]
 refine aV ?_;try simp only[↓aA,aB,rE,↓reduceIte]
 have s615:Same S6 S15:=s7.trans (s8.trans (s9.trans (s10.trans s1015)));have s715:Same S7 S15:=s8.trans (s9.trans (s10.trans s1015));have s815:Same S8 S15:=s9.trans (s10.trans s1015);have s915:Same S9 S15:=s10.trans s1015;refine aP (pF H (k6.same s615) (k7.same s715) aK4) ?_;rintro _ T1 ⟨rfl,t1⟩;simp only[↓aA,aB,rE,↓reduceIte,dT];refine aV ?_;try simp only[↓aA,aB,rE,↓reduceIte]
 refine aP (pF H (kC.same (s815.trans t1)) (kC'.same (s915.trans t1)) (aJx rC)) ?_;rintro _ T2 ⟨rfl,t2⟩;have t12:=t1.trans t2;have lp:cJ (.ptr S10.nx 0) true 3 T2.h=some (.agg [.int .i64 m.players,pn,pi]):=fQ ((t12.2 _ n10).trans c12');have lq:cJ (.ptr S13.nx 0) true 3 T2.h=some (.agg [.int .i64 m.players,qn,qi]):=fQ ((t12.2 _ n13).trans c15);simp only[↓aA,aB,rE,↓reduceIte,dT,lp,lq,vE kn ki,vE jn ji];refine aV ?_;try simp only[↓aA,aB,rE,↓reduceIte]
 have u1:=s1015.trans t12;have u2:=s1315.trans t12;obtain⟨tm,tl⟩:=aHv rM;refine aP (aFY H (aN.same (E:=bT) bE kn u1) (aN.same (E:=bZ) bQ ki u1) (aN.same (E:=bT) bE jn u2) (aN.same (E:=bZ) bQ ji u2) tm tl) ?_;rintro _ T3 ⟨rfl,t3⟩;have t13:=t12.trans t3;have u5:=s515.trans t13;have la:cJ (.ptr S.nx 0) true 3 T3.h=some (.agg [.int .i64 g.players,nv,iv]):=fQ ((u5.2 _ lS).trans g5);have lb:cJ (.ptr S3.nx 0) true 3 T3.h=some (.agg [.int .i64 g.players,mv,jv]):=fQ ((u5.2 _ l3).trans c5);simp only[↓aA,aB,rE,↓reduceIte,dT,la,lb,hsg,hso];refine aV ?_;try simp only[↓aA,aB,rE,↓reduceIte]
 refine aP (uJ H (aN.same (E:=bT) bE hn5 u5) (aN.same (E:=bZ) bQ hi5 u5) (aN.same (E:=bT) bE hm5 u5) (aN.same (E:=bZ) bQ hj5 u5) hT hln) ?_;rintro _ T4 ⟨rfl,t4⟩;try simp only[↓aA,aB,rE,↓reduceIte]
 refine aS ?_;try simp only[↓aA,aB,rE,↓reduceIte]
 exact sS5.trans (u5.trans t4)
end Go.Ev.Gl
