import Derived.Test.YtoojnpjgnnpllaaGl21
set_option maxHeartbeats 16000000
set_option linter.unusedSimpArgs false
set_option linter.unusedVariables false
namespace Go.Ev.Gl
variable {fns:T eG}
theorem aAX{i:Int}:∀ {L:List dH} {T:List dH} {a:Nat},T.drop a=L→∀ (l:List Nat),l.Pairwise (· < ·)→(∀x∈l,a≤x∧∃t,T[x]? =some t∧t.1=i)→(l.map (mS T)).sum≤tI i L a
 | [],T,a,hd,l,_,hl=>by
  cases l with
  | nil=>exact Ah _
  | cons x l=>
   obtain⟨h1,t,h2,_⟩:=hl x (Bu ..);have:=(Ai.1 h2).1;have h3:=congrArg List.length hd;rw[Dq] at h3;simp only[Bv] at h3;omega
 | t::L,T,a,hd,l,hp,hl=>by
  have hlen:a<T.length:=by
   have h3:=congrArg List.length hd;rw[Dq,Ay] at h3;omega
  have e:=Bt hlen;rw[hd] at e;injection e with e1 e2;show _≤(if t.1=i then(t.2.2+1 - (a:Int)).toNat else 0)+tI i L (a+1);cases l with
  | nil=>exact De _
  | cons x l=>
   obtain⟨hx1,u,hx2,hx3⟩:=hl x (Bu ..);have hp':=List.pairwise_cons.1 hp;by_cases hxa:x=a
   ·subst hxa;have ht:T[x]? =some t:=by rw[Ab hlen,e1]
    rw[ht] at hx2;cases hx2;rw[if_pos hx3,Cx,Dr];have ih:=aAX (i:=i) (T:=T) (a:=x+1) (L:=L) e2.symm l hp'.2 fun y hy=>⟨hp'.1 y hy,(hl y (Bj _ hy)).2⟩;have es:mS T x=(t.2.2+1 - (x:Int)).toNat:=by unfold mS;rw[ht]
    omega
   ·have ih:=aAX (i:=i) (T:=T) (a:=a+1) (L:=L) e2.symm (x::l) hp fun y hy=>by
     refine⟨?_,(hl y hy).2⟩;rcases Bm.1 hy with rfl | hy
     ·omega
     ·have:=hp'.1 y hy;omega
    omega
theorem aB6{T:List dH}{g:aR}(hT:gS g=some T)(hl:T.length=g.nodes.length){i:Nat}(hi:i<g.nodes.length):1+(((nodeAt g i).next.map Int.toNat).map (mS T)).sum≤mS T i:=by
 have hw:fO g.nodes.length (dU g) (g.nodes.length+1) 0 (-1) 0=some T:=hT;have k:=aAf (by decide) hw;have hf:=qG hw;have hnx:dU g (0+i)=(nodeAt g i).next:=by rw[Ao];exact iV g i
 obtain⟨e1,_⟩:=aB0 k (show i<T.length by omega);have hinc:=hf.inc i (by omega);rw[hnx] at hinc;have hcf:=hf.cf i (by omega);rw[hnx] at hcf;have hpw:((nodeAt g i).next.map Int.toNat).Pairwise (· < ·):=by
  rw[List.pairwise_map];refine List.Pairwise.imp_of_mem (fun {a b} ha hb h=>?_) hinc;have:=hcf a ha;have:=hcf b hb;omega
 have:=aAX (i:=(i:Int)) (T:=T) (a:=0) (L:=T) rfl _ hpw fun x hx=>by
  obtain⟨y,hy,rfl⟩:=Du.1 hx;obtain⟨_,h2,h3⟩:=hcf y hy;refine⟨De _,?_⟩;unfold lF at h3;rw[Nat.sub_zero,Aw] at h3;obtain⟨t,a,b⟩:=h3;exact⟨t,a,by rw[b];omega⟩
 omega
section
variable {g:aR}{a b c c' m:List Int}
theorem aG0(A:fH g m){i k:Nat}(hi:i<g.nodes.length)(hk:k<(nodeAt g i).next.length):(iW g m i k).toNat<(nodeAt g (fA m i)).next.length∧((nodeAt g (fA m i)).next.getD (iW g m i k).toNat 0).toNat=fA m ((nodeAt g i).next.getD k 0).toNat:=by
 obtain⟨h1,h2⟩:=aI1 (A.A.kid i k hi hk);refine⟨h1,?_⟩;unfold iW;rw[h2];rfl
theorem aEv{s:Nat}(hs:s<g.infos.length):(imgI g m).getD s 0=(nodeAt g (fA m (fM g s))).info:=by
 unfold imgI;rw[Ad,Aq,Bl hs];rfl
theorem aE3{s:Nat}(hs:s<g.infos.length):(imgA g m).getD s []=(List.range (nodeAt g (fM g s)).next.length).map fun k=>iW g m (fM g s) k:=by
 unfold imgA;rw[Ad,Aq,Bl hs];rfl
theorem aDB{s k:Nat}(hs:s<g.infos.length)(hk:k<(nodeAt g (fM g s)).next.length):((imgA g m).getD s []).getD k 0=iW g m (fM g s) k:=by
 rw[aE3 hs,Ad,Aq,Bl hk];rfl
theorem pW(G:dL g){s:Nat}(hs:s<g.infos.length):(infoAt g (s:Int)).actions=(((nodeAt g (fM g s)).next.length:Nat):Int):=by
 obtain⟨h1,h2,h3⟩:=G.fst s hs;have:=(G.inf _ h1 h2).2.2
 rwa [h3] at this
theorem aJ5(G:dL g){i j:Nat}(hi:i<g.nodes.length)(hj:j<g.nodes.length)(hk:(nodeAt g i).kind=2)(hk2:(nodeAt g j).kind=2)(e:(nodeAt g i).info=(nodeAt g j).info):(nodeAt g i).next.length=(nodeAt g j).next.length:=by
 have a3:=(G.inf i hi hk).2.2;have b3:=(G.inf j hj hk2).2.2;rw[←e,a3] at b3;omega
theorem aAg(G:dL g)(A:fH g m){s:Nat}(hs:s<g.infos.length):0≤(imgI g m).getD s 0∧(imgI g m).getD s 0<g.infos.length:=by
 obtain⟨h1,h2,h3⟩:=G.fst s hs;rw[aEv hs];have:=G.inf _ (A.M.at h1).2 (by rw[← (A.A.like _ h1).1];exact h2);exact⟨this.1,this.2.1⟩
end
section
variable {g:aR}{T:List dH}{c P P' p:List Int}{f i n j d e:Nat}{s w:Int}
end
section
variable {S:St}{nv iv av:AV}{g:aR}{a:List Int}
theorem aGM(H:Has fns)(hf:cP g=0)(hn:aH 6 bP S nv g.nodes)(hi:aH 2 cA S iv g.infos)(ha:bK .i64 S av a)(A:fH g a):
  gH fns (.fn 21 [] []) [.agg [.int .i64 g.players,nv,iv],av] S fun r S'=>Same S S'∧∃v,r= .tup [v,.int .i64 0]∧bK .i64 S' v (imgI g a):=
 aX (aHR (P:=tL g a) (ok:=iC g a) H (aC4 (g:=g) (m:=a)) hn hi ha (by have:=(iK hf).n2;omega) (aMB H hn hi ha)) fun r S' h=>by
  obtain⟨s,x,y,e,_,p⟩:=h;rw[A.chk hf] at e;obtain⟨S0,_,q,_⟩:=p (A.chk hf);exact⟨s,x,e,q.is⟩
theorem aDP(H:Has fns)(hf:cP g=0)(hn:aH 6 bP S nv g.nodes)(hi:aH 2 cA S iv g.infos)(ha:bK .i64 S av a)(A:fH g a):
  gH fns (.fn 22 [] []) [.agg [.int .i64 g.players,nv,iv],av] S fun r S'=>Same S S'∧∃v,r= .tup [v,.int .i64 0]∧aH 1 iX S' v (imgA g a):=
 aX (aEw (P:=tL g a) (ok:=iC g a) H (aC4 (g:=g) (m:=a)) hn hi ha (by have:=(iK hf).n2;omega) (aMB H hn hi ha)) fun r S' h=>by
  obtain⟨s,x,y,e,_,p⟩:=h;rw[A.chk hf] at e;obtain⟨S0,_,_,ab,bs,cs,rfl,_,h2,h3,h4⟩:=p (A.chk hf);exact⟨s,_,e,h4.is h3 h2 (Ah _)⟩
end
structure aQH where
 av:AV
 bv:AV
 cv:AV
 xav:AV
 xbv:AV
 xcv:AV
 chv:AV
 nv:AV
 iv:AV
 gb:Nat
 rb:Nat
 n:Nat
section
variable {S Y:St}{z:aQH}{g:aR}{Ia Ib Ic C:List Int}{Xa Xb Xc:List (List Int)}{F0:Fr}
end
end Go.Ev.Gl
