import Derived.Test.YtoojnpjgnnpllaaGl20
set_option maxHeartbeats 0
set_option linter.unusedSimpArgs false
set_option linter.unusedVariables false
namespace Go.Ev.Gl
variable {fns:T dY}
theorem aBP{i:Int}:∀ {L:List dM} {T:List dM} {a:Nat},T.drop a=L->∀ (l:bg),l.Pairwise (· < ·)->(∀x∈l,a<=x/\∃t,T[x]? =some t/\t.1=i)->(l.map (oC T)).sum<=vV i L a
 | [],T,a,hd,l,_,hl=>by
  cases l with
  | nil=>exact Ag _
  | cons x l=>
   have⟨h1,t,h2,_⟩:=hl x (Bv ..);have:=(Ai.1 h2).1;have h3:=Fg List.length hd;rw[Dr] at h3;simp only[Bq] at h3;omega
 | t::L,T,a,hd,l,hp,hl=>by
  have hlen:a<T.length:=by
   have h3:=Fg List.length hd;rw[Dr,Ax] at h3;omega
  have e:=Bw hlen;rw[hd] at e;injection e with e1 e2;show _<=(if t.1=i then(t.2.2+1 - (a:Int)).toNat else 0)+vV i L (a+1);cases l with
  | nil=>exact Du _
  | cons x l=>
   have⟨hx1,u,hx2,hx3⟩:=hl x (Bv ..);have hp':=List.pairwise_cons.1 hp;by_cases hxa:x=a
   ·subst hxa;have ht:T[x]? =some t:=by rw[Ab hlen,e1]
    rw[ht] at hx2;cases hx2;rw[if_pos hx3,Dc,Ef];have ih:=aBP (i:=i) (T:=T) (a:=x+1) (L:=L) e2.symm l hp'.2 fun y hy=>⟨hp'.1 y hy,(hl y (Bk _ hy)).2⟩;have es:oC T x=(t.2.2+1 - (x:Int)).toNat:=by unfold oC;rw[ht]
    omega
   ·have ih:=aBP (i:=i) (T:=T) (a:=a+1) (L:=L) e2.symm (x::l) hp fun y hy=>by
     refine⟨?_,(hl y hy).2⟩;rcases Bs.1 hy with rfl | hy
     ·omega
     ·have:=hp'.1 y hy;omega
    omega
theorem aEk{T:List dM}{g:aS}(hT:iN g=some T)(hl:T.length=g.bh.length){i:Nat}(hi:i<g.bh.length):1+(((b8 g i).next.map Int.toNat).map (oC T)).sum<=oC T i:=by
 have hw:fW g.bh.length (eB g) (g.bh.length+1) 0 (-1) 0=some T:=hT;have k:=aBc ay hw;have hf:=rJ hw;have hnx:eB g (0+i)=(b8 g i).next:=by rw[An];exact jC g i
 have⟨e1,_⟩:=aCV k (show i<T.length by omega);have hinc:=hf.inc i ar;rw[hnx] at hinc;have hcf:=hf.cf i ar;rw[hnx] at hcf;have hpw:((b8 g i).next.map Int.toNat).Pairwise (· < ·):=by
  rw[List.pairwise_map];refine List.Pairwise.imp_of_mem (fun {a b} ha hb h=>?_) hinc;have:=hcf a ha;have:=hcf b hb;omega
 have:=aBP (i:=(i:Int)) (T:=T) (a:=0) (L:=T) rfl _ hpw fun x hx=>by
  obtain⟨y,hy,rfl⟩:=Dg.1 hx;have⟨_,h2,h3⟩:=hcf y hy;refine⟨Du _,?_⟩;unfold mF at h3;rw[Nat.sub_zero,Aw] at h3;have⟨t,a,b⟩:=h3;exact⟨t,a,by rw[b];omega⟩
 omega
section
variable {g:aS}{a b c c' m:ba}
theorem aIt(A:eX g m){i k:Nat}(hi:i<g.bh.length)(hk:k<(b8 g i).next.length):(jN g m i k).toNat<(b8 g (fG m i)).next.length/\((b8 g (fG m i)).next.getD (jN g m i k).toNat 0).toNat=fG m ((b8 g i).next.getD k 0).toNat:=by
 have⟨h1,h2⟩:=aKR (A.A.kid i k hi hk);refine⟨h1,?_⟩;unfold jN;rw[h2];rfl
theorem aFJ{s:Nat}(hs:s<g.bj.length):(de g m).getD s 0=(b8 g (fG m (fU g s))).info:=by
 unfold de;rw[Ad,Am,Bf hs];rfl
theorem aFI{s:Nat}(hs:s<g.bj.length):(df g m).getD s []=(List.range (b8 g (fU g s)).next.length).map fun k=>jN g m (fU g s) k:=by
 unfold df;rw[Ad,Am,Bf hs];rfl
theorem aC8{s k:Nat}(hs:s<g.bj.length)(hk:k<(b8 g (fU g s)).next.length):((df g m).getD s []).getD k 0=jN g m (fU g s) k:=by
 rw[aFI hs,Ad,Am,Bf hk];rfl
theorem pT(G:dE g){s:Nat}(hs:s<g.bj.length):(cd g (s:Int)).bt=(((b8 g (fU g s)).next.length:Nat):Int):=by
 have⟨h1,h2,h3⟩:=G.fst s hs;have:=(G.inf _ h1 h2).2.2
 rwa [h3] at this
theorem aLL(G:dE g){i j:Nat}(hi:i<g.bh.length)(hj:j<g.bh.length)(hk:(b8 g i).kind=2)(hk2:(b8 g j).kind=2)(e:(b8 g i).info=(b8 g j).info):(b8 g i).next.length=(b8 g j).next.length:=by
 have a3:=(G.inf i hi hk).2.2;have b3:=(G.inf j hj hk2).2.2;rw[<-e,a3] at b3;omega
theorem aAM(G:dE g)(A:eX g m){s:Nat}(hs:s<g.bj.length):0<=(de g m).getD s 0/\(de g m).getD s 0<g.bj.length:=by
 have⟨h1,h2,h3⟩:=G.fst s hs;rw[aFJ hs];have:=G.inf _ (A.M.at h1).2 (by rw[<- (A.A.like _ h1).1];exact h2);exact⟨this.1,this.2.1⟩
end
section
variable {g:aS}{T:List dM}{c P P' p:ba}{f i n j d e:Nat}{s w:Int}
end
section
variable {S:St}{nv iv av:AV}{g:aS}{a:ba}
theorem aGD(H:Has fns)(hf:cT g=0)(hn:aE 6 bX S nv g.bh)(hi:aE 2 bP S iv g.bj)(ha:bI .i64 S av a)(A:eX g a):
  fZ fns (.fn 21 [] []) [.agg [.int .i64 g.bo,nv,iv],av] S fun r S'=>Same S S'/\∃v,r= .tup [v,.int .i64 0]/\bI .i64 S' v (de g a):=
 aW (aI5 (P:=vR g a) (ok:=iR g a) H (aDj (g:=g) (m:=a)) hn hi ha (by have:=(gF hf).n2;omega) (aOF H hn hi ha)) fun r S' h=>by
  have⟨s,x,y,e,_,p⟩:=h;rw[A.chk hf] at e;have⟨S0,_,q,_⟩:=p (A.chk hf);exact⟨s,x,e,q.is⟩
theorem aEU(H:Has fns)(hf:cT g=0)(hn:aE 6 bX S nv g.bh)(hi:aE 2 bP S iv g.bj)(ha:bI .i64 S av a)(A:eX g a):
  fZ fns (.fn 22 [] []) [.agg [.int .i64 g.bo,nv,iv],av] S fun r S'=>Same S S'/\∃v,r= .tup [v,.int .i64 0]/\aE 1 iD S' v (df g a):=
 aW (aGt (P:=vR g a) (ok:=iR g a) H (aDj (g:=g) (m:=a)) hn hi ha (by have:=(gF hf).n2;omega) (aOF H hn hi ha)) fun r S' h=>by
  have⟨s,x,y,e,_,p⟩:=h;rw[A.chk hf] at e;obtain⟨S0,_,_,ab,bs,cs,rfl,_,h2,h3,h4⟩:=p (A.chk hf);exact⟨s,_,e,h4.is h3 h2 (Ag _)⟩
end
structure aS5 where
 av:AV
 bv:AV
 cv:AV
 xav:AV
 xbv:AV
 xcv:AV
 chv:AV
 nv:AV
 iv:AV
 gb:Nat
 rb:Nat
 n:Nat
section
variable {S Y:St}{z:aS5}{g:aS}{Ia Ib Ic C:ba}{Xa Xb Xc:a9}{F0:Fr}
end
end Go.Ev.Gl
