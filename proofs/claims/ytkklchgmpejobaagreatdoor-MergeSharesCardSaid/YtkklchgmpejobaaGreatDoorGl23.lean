import Derived.Test.YtkklchgmpejobaaGreatDoorGl22
open Nat renaming reduceEqDiff → rE, reduceAdd → rA
set_option maxHeartbeats 16000000
set_option linter.unusedSimpArgs false
set_option linter.unusedVariables false
namespace Go.Ev.Gl
open Go.Sort
variable {fns:T cW}
end Go.Ev.Gl
namespace Go.Ev.Gl
open Go.Sort
variable {fns:T cW}
def aRc(g:bJ)(C:List Int):Prop:=(gG g=0→∃F,iV g (htL g) F C)∧(gG g≠0→C= [])
def aP5(g m:bJ):Prop:=(gG g=0→∃F C,iV g (htL g) F C∧m=fN g F C)∧(gG g≠0→m=⟨0,[],[]⟩)
theorem aM2{F:Fr}{h:Ev.T AB}:iG (.build [.int .i64 0,.nilsl,.nilsl] []) F h=some (.agg [.int .i64 0,.nilsl,.nilsl]):=rfl
theorem aEi{S:St}{nv iv:AV}{g:bJ}(H:Has fns)(hn:aY 6 dJ S nv g.nodes)(hi:aY 2 fM S iv g.infos)(hln:g.nodes.length≤100000)(hL:iO S):fR fns (.fn 23 [] []) [.agg [.int .i64 g.players,nv,iv]] S fun r X=>∃hv,r= .tup [hv,.int .i64 (gG g)]∧Same S X∧∃C,bT .i64 X hv C∧aRc g C:=by
 refine cD H.f23 (by simp) ?_;simp only[↓aA,aB,rE,↓reduceIte,rA];refine cC ?_;refine dR (by simp only[↓aA,aB,rE,↓reduceIte];exact bK _) ?_;intro S1 s1 n1 c1;simp only[↓aA,aB,rE,↓reduceIte];have lagg:dB (.ptr S.nx 0) true 3 S1.h=some (.agg [.int .i64 g.players,nv,iv]):=jG c1;refine iU ?_;simp only[↓aA,aB,rE,↓reduceIte,lagg];refine bB ?_;try simp only[↓aA,aB,rE,↓reduceIte]
 refine aN (aBs H (aY.same (E:=dJ) cV hn s1) (aY.same (E:=fM) eZ hi s1) hln) ?_;rintro _ Y ⟨rfl,hY⟩;have cY:=(hY.2 _ (show S.nx<S1.nx by omega)).trans c1;have laggY:dB (.ptr S.nx 0) true 3 Y.h=some (.agg [.int .i64 g.players,nv,iv]):=jG cY;have sSY:=s1.trans hY;try simp only[↓aA,aB,rE,↓reduceIte]
 refine cC ?_;simp only[↓aA,aB,rE,↓reduceIte];by_cases he:gG g=0
 ·refine aP (by simp only[↓aA,aB,rE,↓reduceIte,he];exact Ci _ (Aa (by omega))) (aM ?_);try simp only[↓aA,aB,rE,↓reduceIte]
  refine cC ?_;simp only[↓aA,aB,rE,↓reduceIte,laggY];refine bB ?_;try simp only[↓aA,aB,rE,↓reduceIte]
  refine aN (aAI H (pG he) (hL.same sSY) (fun i hi=>(qA he i hi).1) (fun i hi=>(qA he i hi).2) ⟨nv,iv,rfl,aY.same (E:=dJ) cV hn sSY,aY.same (E:=fM) eZ hi sSY⟩) ?_;rintro _ Z ⟨a,b,F,C,rfl,hZ,hC,iA,iB⟩;try simp only[↓aA,aB,rE,↓reduceIte,ex0,ex1]
  refine cC ?_;simp only[↓aA,aB,rE,↓reduceIte];refine aT ?_;simp only[↓aA,aB,rE,↓reduceIte];rw[he];exact⟨_,rfl,sSY.trans hZ,C,iA,fun _=>⟨F,hC⟩,fun h=>absurd he h⟩
 ·refine aS (by simp only[↓aA,aB,rE,↓reduceIte];exact Ci _ (Ac he)) (aC (aG ?_));simp only[↓aA,aB,rE,↓reduceIte];refine aT ?_;simp only[↓aA,aB,rE,↓reduceIte];exact⟨_,rfl,sSY,[],.inl ⟨rfl,.inl rfl⟩,fun h=>absurd h he,fun _=>rfl⟩
end Go.Ev.Gl
namespace Go.Ev.Gl
open Go.Sort
variable {fns:T cW}
theorem aGg{S:St}{nv iv:AV}{g:bJ}(H:Has fns)(hn:aY 6 dJ S nv g.nodes)(hi:aY 2 fM S iv g.infos)(hln:g.nodes.length≤100000)(hL:iO S):fR fns (.fn 9 [] []) [.agg [.int .i64 g.players,nv,iv]] S fun r X=>∃mv,r= .tup [mv,.int .i64 (gG g)]∧Same S X∧∃m,mA X mv m∧aP5 g m:=by
 refine cD H.f9 (by simp) ?_;simp only[↓aA,aB,rE,↓reduceIte,rA];refine cC ?_;refine dR (by simp only[↓aA,aB,rE,↓reduceIte];exact bK _) ?_;intro S1 s1 n1 c1;refine cS ?_;intro S2 s2 n2 c2;simp only[↓aA,aB,rE,↓reduceIte];have g2:=(s2.2 _ (show S.nx<S1.nx by omega)).trans c1;have s12:=s1.trans s2;have lagg:dB (.ptr S.nx 0) true 3 S2.h=some (.agg [.int .i64 g.players,nv,iv]):=jG g2;refine iU ?_;simp only[↓aA,aB,rE,↓reduceIte,lagg];refine bB ?_;try simp only[↓aA,aB,rE,↓reduceIte]
 refine aN (aBs H (aY.same (E:=dJ) cV hn s12) (aY.same (E:=fM) eZ hi s12) hln) ?_;rintro _ Y ⟨rfl,hY⟩;have cY:=(hY.2 _ (show S.nx<S2.nx by omega)).trans g2;have rY:=(hY.2 _ (show S1.nx<S2.nx by omega)).trans c2;have nY:=hY.1;have laggY:dB (.ptr S.nx 0) true 3 Y.h=some (.agg [.int .i64 g.players,nv,iv]):=jG cY;have sSY:=s12.trans hY;try simp only[↓aA,aB,rE,↓reduceIte]
 refine cC ?_;simp only[↓aA,aB,rE,↓reduceIte];by_cases he:gG g=0
 ·refine aP (by simp only[↓aA,aB,rE,↓reduceIte,he];exact Ci _ (Aa (by omega))) (aM ?_);try simp only[↓aA,aB,rE,↓reduceIte]
  refine cC ?_;simp only[↓aA,aB,rE,↓reduceIte,laggY];refine bB ?_;try simp only[↓aA,aB,rE,↓reduceIte]
  refine aN (aB5 H (pG he) (hL.same sSY) (fun i hi=>(qA he i hi).1) (fun i hi=>(qA he i hi).2) ⟨nv,iv,rfl,aY.same (E:=dJ) cV hn sSY,aY.same (E:=fM) eZ hi sSY⟩) ?_;rintro r Z ⟨hZ,F,C,hC,hNew⟩;obtain⟨mn,mi,rfl,k1,k2⟩:=hNew Z (Af _) (fun _ _ _=>rfl);have rZ:=(hZ.2 _ (show S1.nx<Y.nx by omega)).trans rY;have sSZ:=sSY.trans hZ;try simp only[↓aA,aB,rE,↓reduceIte]
  refine fA (b:=S1.nx) (cs':=[.int .i64 (fN g F C).players,mn,mi]) (by simp only[↓aA,aB,rE,↓reduceIte]) (by simp only[↓aA,aB,rE,↓reduceIte];exact bK _) rZ rfl rfl ?_;intro X x nx gx;simp only[↓aA,aB,rE,↓reduceIte];refine aT ?_;have hng:∀c,c<Z.nx→c≠S1.nx→X.h.get c=Z.h.get c:=x.2;simp only[↓aA,aB,rE,↓reduceIte,gE,ld3 gx];rw[he];exact⟨_,rfl,x.same sSZ (by omega),fN g F C,hNew X x.1 fun c h1 h2=>hng c h2 (by omega),fun _=>⟨F,C,hC,rfl⟩,fun h=>absurd he h⟩
 ·refine aS (by simp only[↓aA,aB,rE,↓reduceIte];exact Ci _ (Ac he)) (aC (aG ?_));simp only[↓aA,aB,rE,↓reduceIte,aM2];refine fA (b:=S1.nx) (cs':=[.int .i64 0,.nilsl,.nilsl]) (by simp only[↓aA,aB,rE,↓reduceIte]) (by simp only[↓aA,aB,rE,↓reduceIte];exact bK _) rY rfl rfl ?_;intro X x nx gx;simp only[↓aA,aB,rE,↓reduceIte];refine aT ?_;simp only[↓aA,aB,rE,↓reduceIte,gE,ld3 gx];exact⟨_,rfl,x.same sSY (by omega),⟨0,[],[]⟩,⟨_,_,rfl,.inl ⟨rfl,.inl rfl⟩,.inl ⟨rfl,.inl rfl⟩⟩,fun h=>absurd h he,fun _=>rfl⟩
end Go.Ev.Gl
namespace Go.Ev.Gl
open Go.Sort
variable {fns:T cW}
theorem aKQ{g m:bJ}(h:aP5 g m):aH4 m∧m.nodes.length≤100000:=by
 by_cases he:gG g=0
 ·obtain⟨F,C,hC,rfl⟩:=h.1 he;have G:=pG he;have hN:=G.n2;have hI:=G.ni;refine⟨⟨by show g.infos.length * 16≤_;omega,fun x hx=>?_⟩,?_⟩
  ·obtain⟨q,hq,rfl⟩:=En.1 hx;obtain⟨q1,_⟩:=hC.mem hq;have h1:=G.nxt q q1;have h2:=(qA he q q1).2;have h3:=G.pay q q1;refine⟨?_,?_,?_⟩
   ·show((nodeAt g q).next.map fun c=>C.getD c.toNat 0).length * 8≤_;rw[Ay];omega
   ·show(nodeAt g q).weights.length * 8≤_;omega
   ·show(nodeAt g q).pay.length * 8≤_;omega
  ·show(F.map (iL g C)).length≤100000;have:=hC.perm.length_eq;have h2:=oI g g.nodes.length;unfold mI at h2;rw[Ay];omega
 ·rw[h.2 he];refine⟨⟨by simp,fun x hx=>by cases hx⟩,by simp⟩
end Go.Ev.Gl
namespace Go.Ev.Gl
open Go.Sort
variable {fns:T cW}
end Go.Ev.Gl
