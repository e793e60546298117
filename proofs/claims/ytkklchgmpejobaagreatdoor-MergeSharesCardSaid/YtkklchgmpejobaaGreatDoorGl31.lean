import Derived.Test.YtkklchgmpejobaaGreatDoorGl30
open Nat renaming reduceEqDiff → rE, reduceAdd → rA
set_option maxHeartbeats 16000000
set_option linter.unusedSimpArgs false
set_option linter.unusedVariables false
namespace Go.Ev.Gl
variable {fns:T cW}
def zX:Nat→(Nat→Nat)→Nat
 | 0,_=>0
 | n+1,f=>zX n f+f n
theorem pN:∀ {n:Nat} {f g:Nat→Nat},(∀i,i<n→f i=g i)→zX n f=zX n g
 | 0,_,_,_=>rfl
 | n+1,f,g,h=>by
  show zX n f+f n=zX n g+g n;rw[pN fun i hi=>h i (by omega),h n (by omega)]
theorem aF1{f g:Nat→Nat}:∀ {n:Nat},zX n (fun i=>f i+g i)=zX n f+zX n g
 | 0=>rfl
 | n+1=>by
  show zX n (fun i=>f i+g i)+(f n+g n)=(zX n f+f n)+(zX n g+g n);rw[aF1 (n:=n)];omega
theorem aI1{k:Nat}{f:Nat→Nat}:∀ {n:Nat},zX n (fun i=>k * f i)=k * zX n f
 | 0=>rfl
 | n+1=>by
  show zX n (fun i=>k * f i)+k * f n=k * (zX n f+f n);rw[aI1 (n:=n),Nat.mul_add]
theorem aIO{f g:Nat→Nat}{q:Nat}(h:∀i,i≠q→f i=g i):∀ {n:Nat},q<n→zX n f+g q=zX n g+f q
 | 0,hq=>by omega
 | n+1,hq=>by
  show zX n f+f n+g q=zX n g+g n+f q;by_cases e:q=n
  ·subst e;rw[pN (g:=g) fun i hi=>h i (by omega)];omega
  ·have:=aIO h (show q<n by omega);have:=h n (Cr e);omega
theorem aAe{f:Nat→Nat}{q:Nat}:∀ {n:Nat},zX n (fun v=>if v=q then f v else 0)=if q<n then f q else 0
 | 0=>rfl
 | n+1=>by
  show zX n (fun v=>if v=q then f v else 0)+(if n=q then f n else 0)=_;rw[aAe];by_cases e:n=q
  ·subst e;rw[if_neg (Nat.lt_irrefl _),if_pos rfl,if_pos (Ea _),Ao]
  ·rw[if_neg e];by_cases e2:q<n
   ·rw[if_pos e2,if_pos (by omega)];rfl
   ·rw[if_neg e2,if_neg (by omega)]
theorem aMr{f:Nat→Nat}{q:Nat}:∀ {n:Nat},q<n→f q≤zX n f
 | 0,h=>by omega
 | n+1,h=>by
  show f q≤zX n f+f n;by_cases e:q=n
  ·subst e;omega
  ·have:=aMr (f:=f) (show q<n by omega);omega
def aBf(l:List Int)(v:Nat):Nat:=(l.map Int.toNat).count v
theorem xD{c:Int}{l:List Int}{v:Nat}:aBf (c::l) v=aBf l v+if v=c.toNat then 1 else 0:=by
 unfold aBf;rw[Ce,List.count_cons];by_cases e:c.toNat=v
 ·rw[if_pos (by rw[e];exact BEq.rfl),if_pos e.symm]
 ·rw[if_neg (by simpa using e),if_neg (Cr e)]
theorem aJc{w:Nat→Nat}{n:Nat}:∀ {l:List Int},(∀c∈l,c.toNat<n)→zX n (fun v=>aBf l v * w v)=(l.map fun c=>w c.toNat).sum
 | [],_=>by
  have:∀n,zX n (fun v=>aBf [] v * w v)=0:=fun n=>by
   induction n with
   | zero=>rfl
   | succ n ih=>
    show zX n (fun v=>aBf [] v * w v)+0 * w n=0;rw[ih,Dy]
  exact this n
 | c::l,h=>by
  rw[Ce,Fj,←aJc fun d hd=>h d (by simp [hd]),pN (g:=fun v=>aBf l v * w v+if v=c.toNat then w v else 0) fun v _=>?_]
  ·rw[aF1,aAe,if_pos (h c (by simp))];omega
  ·rw[xD,Dm];by_cases e:v=c.toNat
   ·rw[if_pos e,if_pos e,Fb]
   ·rw[if_neg e,if_neg e,Dy]
def aBl(h:bJ)(a:Nat):Nat→Nat→Nat
 | 0,_=>0
 | f+1,v=>(if v=a then 1 else 0)+((nodeAt h v).next.map fun c=>aBl h a f c.toNat).sum
def aCp(h:bJ)(a v:Nat):Nat:=aBl h a h.nodes.length v
def sE(h:bJ):Nat→Nat→Nat
 | 0,v=>if v=0 then 1 else 0
 | i+1,v=>sE h i v+sE h i i * aBf (nodeAt h i).next v
section
variable {h:bJ}
theorem zB{a:Nat}(hK:dI h):∀ {f f' v:Nat},v<h.nodes.length→h.nodes.length - v≤f→h.nodes.length - v≤f'→aBl h a f v=aBl h a f' v
 | 0,_,v,hv,h1,_=>by omega
 | f+1,0,v,hv,_,h2=>by omega
 | f+1,f'+1,v,hv,h1,h2=>by
  unfold aBl;rw[oC fun c hc=>?_];obtain⟨k1,k2⟩:=lD (hK:=hK) hv hc;exact zB hK k2 (by omega) (by omega)
theorem aMt{a v:Nat}(hK:dI h)(hv:v<h.nodes.length):aCp h a v=(if v=a then 1 else 0)+((nodeAt h v).next.map fun c=>aCp h a c.toNat).sum:=by
 unfold aCp;obtain⟨n,hn⟩:∃n,h.nodes.length=n+1:=⟨h.nodes.length - 1,by omega⟩
 conv=>lhs;rw[hn];unfold aBl
 rw[oC fun c hc=>?_];obtain⟨k1,k2⟩:=lD (hK:=hK) hv hc;exact zB hK k2 (by omega) (by omega)
theorem aJn{a:Nat}:∀ {f v:Nat},aBl h a f v≤aCj h f v
 | 0,_=>Af _
 | f+1,v=>by
  unfold aBl aCj;have key:∀l:List Int,(l.map fun c=>aBl h a f c.toNat).sum≤(l.map fun c=>aCj h f c.toNat).sum:=fun l=>by
   induction l with
   | nil=>exact Af _
   | cons c l ih=>
    rw[Ce,Ce,Fj,Fj];have:=aJn (a:=a) (f:=f) (v:=c.toNat);omega
  have:=key (nodeAt h v).next;split<;>omega
def wgt(h:bJ)(a i v:Nat):Nat:=if v<i then(if v=a then 1 else 0) else aCp h a v
theorem aBI{a:Nat}(hK:dI h)(h0:0<h.nodes.length):∀ {i:Nat},i≤h.nodes.length→zX h.nodes.length (fun v=>sE h i v * wgt h a i v)=aCp h a 0
 | 0,_=>by
  rw[pN (g:=fun v=>if v=0 then aCp h a v else 0) fun v _=>?_,aAe,if_pos h0];show(if v=0 then 1 else 0) * (if v<0 then _ else aCp h a v)=_;rw[if_neg (Dw v)];by_cases e:v=0
  ·rw[if_pos e,if_pos e,Fb]
  ·rw[if_neg e,if_neg e,Dy]
 | i+1,hi=>by
  have ih:=aBI (a:=a) hK h0 (show i≤h.nodes.length by omega);have hil:i<h.nodes.length:=by omega
  have e1:zX h.nodes.length (fun v=>sE h (i+1) v * wgt h a (i+1) v)=zX h.nodes.length (fun v=>sE h i v * wgt h a (i+1) v)+sE h i i * zX h.nodes.length (fun v=>aBf (nodeAt h i).next v * wgt h a (i+1) v):=by
   rw[←aI1,←aF1];refine pN fun v _=>?_;show(sE h i v+sE h i i * aBf (nodeAt h i).next v) * _=_;rw[Dm,Nat.mul_assoc]
  have hc:∀c∈(nodeAt h i).next,c.toNat<h.nodes.length:=fun c hc=>(lD (hK:=hK) hil hc).2;have e2:((nodeAt h i).next.map fun c=>wgt h a (i+1) c.toNat).sum=((nodeAt h i).next.map fun c=>aCp h a c.toNat).sum:=by
   rw[oC fun c hc=>?_];have:=(lD (hK:=hK) hil hc).1;unfold wgt;rw[if_neg (by omega)]
  have e3:=aIO (f:=fun v=>sE h i v * wgt h a (i+1) v) (g:=fun v=>sE h i v * wgt h a i v) (q:=i) (fun v hv=>by
   show sE h i v * wgt h a (i+1) v=sE h i v * wgt h a i v;have:wgt h a (i+1) v=wgt h a i v:=by
    unfold wgt;by_cases e:v<i
    ·rw[if_pos e,if_pos (by omega)]
    ·rw[if_neg e,if_neg (by omega)]
   rw[this]) hil
  have w1:wgt h a (i+1) i=if i=a then 1 else 0:=by unfold wgt;rw[if_pos (Ea i)]
  have w2:wgt h a i i=(if i=a then 1 else 0)+((nodeAt h i).next.map fun c=>aCp h a c.toNat).sum:=by unfold wgt;rw[if_neg (Nat.lt_irrefl _),aMt hK hil]
  simp only[w1,w2] at e3;rw[e1,aJc hc,e2];rw[Nat.mul_add] at e3;omega
theorem aOz{a i:Nat}(hK:dI h)(ha:a<h.nodes.length):1≤wgt h a i a:=by
 unfold wgt;split
 ·rw[if_pos rfl];exact Af _
 ·rw[aMt hK ha,if_pos rfl];omega
theorem aOh{a i:Nat}(hK:dI h)(ha:a<h.nodes.length)(hi:i≤h.nodes.length):sE h i a≤lR h 0:=by
 have h1:=aBI (a:=a) hK (by omega) hi;have h2:=aMr (f:=fun v=>sE h i v * wgt h a i v) ha;have h3:=Nat.mul_le_mul_left (sE h i a) (aOz (i:=i) hK ha);have h4:aCp h a 0≤lR h 0:=aJn;try simp only at h2
 omega
theorem aLf{a:Nat}(hK:dI h)(ha:a<h.nodes.length):sE h h.nodes.length a=aCp h a 0:=by
 rw[←aBI (a:=a) hK (by omega) (Af _),pN (g:=fun v=>if v=a then sE h h.nodes.length v else 0) fun v hv=>?_,aAe,if_pos ha];unfold wgt;rw[if_pos hv];by_cases e:v=a
 ·rw[if_pos e,if_pos e,Du]
 ·rw[if_neg e,if_neg e,Nat.mul_zero]
theorem aJq{i n:Nat}{B:Nat}(hB:B≤1000000000):∀ {l:List Int} {M:List Int} {m:Nat→Nat},M.length=n→(∀c∈l,i<c.toNat∧c.toNat<n)→(∀v,v<n→M.getD v 0=((m v:Nat):Int))→(∀v,v<n→m v+m i * aBf l v≤B)→i<n→∀v,v<n→(aBE i M l).getD v 0=((m v+m i * aBf l v:Nat):Int)
 | [],M,m,_,_,hM,_,_,v,hv=>by
  show M.getD v 0=_;rw[hM v hv];rfl
 | c::l,M,m,hl,hc,hM,hb,hi,v,hv=>by
  obtain⟨c1,c2⟩:=hc c (by simp);have b0:=hb c.toNat c2;rw[xD,if_pos rfl,Nat.mul_add,Du] at b0;have w:IntKind.i64.wrap (M.getD c.toNat 0+M.getD i 0)=((m c.toNat+m i:Nat):Int):=by
   rw[hM _ c2,hM _ hi,wrap_i64 (by omega) (by omega)];omega
  have ih:=aJq (i:=i) (n:=n) hB (l:=l) (M:=M.set c.toNat ((m c.toNat+m i:Nat):Int)) (m:=fun v=>if v=c.toNat then m v+m i else m v) (by rw[Bi];exact hl) (fun d hd=>hc d (by simp [hd])) (fun u hu=>by
   rw[fP (by omega)];by_cases e:u=c.toNat
   ·rw[if_pos e,if_pos e,e]
   ·rw[if_neg e,if_neg e,hM u hu]) (fun u hu=>by
   have:=hb u hu;rw[xD,Nat.mul_add] at this;simp only[show ¬i=c.toNat by omega,Co];by_cases e:u=c.toNat
   ·rw[if_pos e] at this ⊢;omega
   ·rw[if_neg e] at this ⊢;omega) hi v hv
  show(aBE i (M.set c.toNat (IntKind.i64.wrap (M.getD c.toNat 0+M.getD i 0))) l).getD v 0=_;rw[w,ih,xD,Nat.mul_add];simp only[show ¬i=c.toNat by omega,Co];by_cases e:v=c.toNat
  ·rw[if_pos e,if_pos e];omega
  ·rw[if_neg e,if_neg e];omega
theorem aJh(hK:dI h)(h0:0<h.nodes.length)(hs:lR h 0≤2000):∀ {i:Nat},i≤h.nodes.length→∀v,v<h.nodes.length→(aBg h i).getD v 0=((sE h i v:Nat):Int)
 | 0,_,v,hv=>by
  show((List.replicate h.nodes.length 0).set 0 1).getD v 0=_;rw[fP (by rw[Bd];exact h0)];by_cases e:v=0
  ·rw[if_pos e,e];rfl
  ·rw[if_neg e,Ag,Dj,if_pos hv];show(0:Int)=((if v=0 then 1 else 0:Nat):Int);rw[if_neg e];rfl
 | i+1,hi,v,hv=>by
  have hil:i<h.nodes.length:=by omega
  exact aJq (i:=i) (n:=h.nodes.length) (B:=2000) (by decide) oH (fun c hc=>lD (hK:=hK) hil hc) (aJh hK h0 hs (by omega)) (fun u hu=>by
   have:=aOh (i:=i+1) hK hu hi;have e:sE h (i+1) u=sE h i u+sE h i i * aBf (nodeAt h i).next u:=rfl;omega) hil v hv
end
def cR(C:List Int)(a:Nat):Nat→Nat→Nat
 | _,0=>0
 | s,n+1=>(if lT C s=a then 1 else 0)+cR C a (s+1) n
theorem aIn{C:List Int}{a:Nat}:∀ {n m s:Nat},cR C a s (n+m)=cR C a s n+cR C a (s+n) m
 | 0,m,s=>by
  rw[Ao];show _=0+cR C a s m;rw[Ao]
 | n+1,m,s=>by
  rw[show n+1+m=(n+m)+1 by omega];show _+cR C a (s+1) (n+m)=_+cR C a (s+1) n+cR C a (s+(n+1)) m;rw[aIn,show s+1+n=s+(n+1) by omega];omega
theorem aNM{C:List Int}{a n:Nat}:cR C a 0 (n+1)=cR C a 0 n+if lT C n=a then 1 else 0:=by
 rw[aIn];show _+((if lT C (0+n)=a then 1 else 0)+0)=_;rw[Ao,Bt]
section
variable {g:bJ}{F:List Nat}{C:List Int}
theorem aG4{a f:Nat}{rec:Nat→Option (List fO)}(hu:∀r L,rec r=some L→aBl (fN g F C) a f (lT C r)=cR C a r L.length):∀ {l:List Int} {r:Nat} {L:List fO},gT rec l r=some L→((l.map fun c=>C.getD c.toNat 0).map fun c=>aBl (fN g F C) a f c.toNat).sum=cR C a r L.length
 | [],r,L,h=>by
  cases h;rfl
 | c::l,r,L,h=>by
  simp only[gT] at h;split at h
  ·rename_i hc;obtain⟨L1,h1,h2⟩:=Di.1 h;obtain⟨L2,h3,rfl⟩:=Au.1 h2;have ih:=aG4 hu h3;have ec:(C.getD c.toNat 0).toNat=lT C r:=by rw[hc];rfl
   rw[Ce,Ce,Fj,ih,ec,hu r L1 h1,Ai,aIn]
  ·cases h
theorem aGk{a:Nat}(hK:dI g)(h:iV g (htL g) F C):∀ {f at_:Nat} {p d:Int} {L:List fO},jF g.nodes.length (jK g) f at_ p d=some L→aBl (fN g F C) a f (lT C at_)=cR C a at_ L.length
 | 0,_,_,_,_,hw=>by cases hw
 | f+1,s,p,d,L,hw=>by
  simp only[jF] at hw;split at hw
  ·rename_i hlt;obtain⟨L',h1,rfl⟩:=Au.1 hw;obtain⟨_,e⟩:=aAy hK h hlt;rw[sN] at h1;have hk:=aG4 (g:=g) (F:=F) (C:=C) (a:=a) (f:=f) (fun r L hr=>aGk hK h hr) h1;have en:(iL g C s).next=(nodeAt g s).next.map fun c=>C.getD c.toNat 0:=rfl;unfold aBl;rw[e,en,hk];rfl
  ·cases hw
theorem aKs(hf:gG g=0)(h:iV g (htL g) F C){a:Nat}(ha:a<(fN g F C).nodes.length):(aBg (fN g F C) (fN g F C).nodes.length).getD a 0=((cR C a 0 g.nodes.length:Nat):Int):=by
 have G:=pG hf;obtain⟨hL,c0⟩:=aBz G h;obtain⟨e1,e2⟩:=aHl G h;obtain⟨T,hT,hl,hw⟩:=G.walk;have ho:=aGk (a:=a) (jJ G) h hT;rw[c0,hl] at ho;have lF:(fN g F C).nodes.length≤g.nodes.length:=by
  show(F.map _).length≤_;rw[Ay,h.perm.length_eq];have:=oI g g.nodes.length;unfold mI at this;exact this
 have hG2:=G.n2;rw[aJh hL.2.1 hL.1 (by omega) (Af _) a ha,aLf hL.2.1 ha];unfold aCp;rw[zB hL.2.1 (f':=g.nodes.length+1) hL.1 (by omega) (by omega),ho]
theorem aOd(hK:dI g)(h:iV g (htL g) F C){i j:Nat}(hi:i<(fN g F C).nodes.length)(hj:j<(fN g F C).nodes.length)(hij:i≠j):nodeAt (fN g F C) i≠nodeAt (fN g F C) j:=by
 have lF:(fN g F C).nodes.length=F.length:=Ay ..;obtain⟨q,hq⟩:∃q,F[i]? =some q:=⟨_,Ad (by omega)⟩;obtain⟨r,hr⟩:∃r,F[j]? =some r:=⟨_,Ad (by omega)⟩;obtain⟨q1,q2⟩:=h.mem (Ar hq);obtain⟨r1,r2⟩:=h.mem (Ar hr);have eq:nodeAt (fN g F C) i=iL g C q:=lQ (by show(F.map _)[i]? =_;rw[Bf,hq];rfl);have er:nodeAt (fN g F C) j=iL g C r:=lQ (by show(F.map _)[j]? =_;rw[Bf,hr];rfl);rw[eq,er];intro e;have a1:(iL g C q).kind=(iL g C r).kind:=Ci bP.kind e;have a1:(nodeAt g q).kind=(nodeAt g r).kind:=a1;have a2:(iL g C q).player=(iL g C r).player:=Ci bP.player e;have a2:(nodeAt g q).player=(nodeAt g r).player:=a2;have a3:(iL g C q).info=(iL g C r).info:=Ci bP.info e;have a3:(nodeAt g q).info=(nodeAt g r).info:=a3;have a4:(nodeAt g q).next.map (fun c=>C.getD c.toNat 0)=(nodeAt g r).next.map fun c=>C.getD c.toNat 0:=Ci bP.next e;have a5:(iL g C q).weights=(iL g C r).weights:=Ci bP.weights e;have a5:(nodeAt g q).weights=(nodeAt g r).weights:=a5;have a6:(iL g C q).pay=(iL g C r).pay:=Ci bP.pay e;have a6:(nodeAt g q).pay=(nodeAt g r).pay:=a6;have a7:(nodeAt g q).next.length=(nodeAt g r).next.length:=by
  have:=Ci List.length a4
  rwa [Ay,Ay] at this
 have hE:EqS g q r:=(mM hK q1 r1).2 ⟨⟨a1,a2,a3,a5,a6⟩,a7,fun t ht=>by
  obtain⟨_,k2,_⟩:=hK q q1 t ht;obtain⟨_,k5,_⟩:=hK r r1 t (by omega);refine(aFy hK h k2 k5).1 ?_;have ht2:t<(nodeAt g r).next.length:=by omega
  have:=Ci (fun l:List Int=>l[t]?) a4;simp only[Bf,Ad ht,Ad ht2,Ez,Ak] at this;unfold iI;rw[Ag (l:=(nodeAt g q).next),Ag (l:=(nodeAt g r).next),Ad ht,Ad ht2];exact this⟩
 have:=pR hK q1 r1 q2 r2 hE;subst this;exact hij (h.nodup hq hr)
end
end Go.Ev.Gl
namespace Go.Ev.Gl
open Go.Sort
variable {fns:T cW}
theorem aJP{g:bJ}{nv:AV}{S0:St}(H:Has fns)(G:yC g)(hw:∀i,i<g.nodes.length→(nodeAt g i).weights.length≤1000)(hn:aY 6 dJ S0 nv g.nodes):∀a,a<g.nodes.length→∀b,b<g.nodes.length→∀S,Same S0 S→fR fns (.fn 25 [] []) [nv,.int .i64 (a:Int),.int .i64 (b:Int)] S fun r X=>Same S X∧∃β,r= .bool β∧(β=true↔EqS g a b):=qM fun a ha ih b hb S s0=>by
 have hK:=jJ G;have hN:=G.n2;have hnS:=aY.same (E:=dJ) cV hn s0;obtain⟨na,nb,nc,⟨ba,pa,ia,la,da⟩,na1,na2,na3⟩:=aQE hnS ha;obtain⟨ma,mb,mc,⟨bb,pb,ib,lb,db⟩,mb1,mb2,mb3⟩:=aQE hnS hb;have ea:=aEV na1 na2 na3;have eb:=aEV mb1 mb2 mb3;have oa:¬S.nx≤ba:=by omega
 have obb:¬S.nx≤bb:=by omega
 refine cD H.f25 (by simp) ?_;simp only[↓aA,aB,rE,↓reduceIte,rA];refine cC ?_;simp only[↓aA,aB,rE,↓reduceIte];refine aC (mL (fun c=>S.nx≤c) ?_);intro X1 x1 hx1 nx1;simp only[↓sU,sD,rE,↓reduceIte,rA,aH,ia,ib,da,db,ea,eb,la,lb,oa,obb,Ap];have eal:∀ (F:Fr) (id:Nat),tH (.alloc 54 [.int .i64 0,.int .i64 0,.int .i64 0,.nilsl,.nilsl,.nilsl]) F id=some (.ptr id 0,.cells [.int .i64 0,.int .i64 0,.int .i64 0,.nilsl,.nilsl,.nilsl] false 0):=fun _ _=>rfl;rw[eal,iY];simp only[↓sU,sD,rE,↓reduceIte,rA];rw[eal,iY];have n89:¬S.nx+8=S.nx+9:=by omega
 have n98:¬S.nx+9=S.nx+8:=by omega
 obtain⟨h2,hh2⟩:∃h2,h2=(X1.h.set (S.nx+9) (some (.cells [.int .i64 0,.int .i64 0,.int .i64 0,.nilsl,.nilsl,.nilsl] false 0))).set (S.nx+8) (some (.cells [.int .i64 0,.int .i64 0,.int .i64 0,.nilsl,.nilsl,.nilsl] false 0)):=⟨_,rfl⟩;obtain⟨h3,hh3⟩:∃h3,h3=h2.set (S.nx+8) (some (.cells (aAn (nodeAt g a) na nb nc) false 0)):=⟨_,rfl⟩;obtain⟨h4,hh4⟩:∃h4,h4=h3.set (S.nx+9) (some (.cells (aAn (nodeAt g b) ma mb mc) false 0)):=⟨_,rfl⟩;have hfl:cF 783 [⟨9,S.nx+9,.cells [.int .i64 0,.int .i64 0,.int .i64 0,.nilsl,.nilsl,.nilsl] false 0⟩,⟨8,S.nx+8,.cells [.int .i64 0,.int .i64 0,.int .i64 0,.nilsl,.nilsl,.nilsl] false 0⟩] X1.h=([],h2):=by
  rw[vN (show Nat.testBit 783 9=true by decide),vN (show Nat.testBit 783 8=true by decide),bR,hh2]
 simp only[↓sU,sD,rE,↓reduceIte,rA];refine uJ (S1:=⟨h3,X1.nx⟩) rfl ?_ ?_ ?_
 ·rw[hfl];simp only[↓sU,sD,rE,↓reduceIte,rA,bK];rw[hh3];exact aP8 (S:=⟨h2,X1.nx⟩) (cs:=[.int .i64 0,.int .i64 0,.int .i64 0,.nilsl,.nilsl,.nilsl]) (o:=false) (sz:=0) (by rw[hh2,T.get_set,if_pos rfl]) rfl rfl
 ·rw[hfl];refine⟨Af _,fun c hc hw=>?_⟩;rw[hh3];simp only;rw[T.get_set,if_neg (by omega)]
 rw[hfl];simp only[↓sU,sD,rE,↓reduceIte,rA];refine uJ (S1:=⟨h4,X1.nx⟩) rfl ?_ ?_ ?_
 ·rw[bR];simp only[↓sU,sD,rE,↓reduceIte,rA,bK];rw[hh4];exact aP8 (S:=⟨h3,X1.nx⟩) (cs:=[.int .i64 0,.int .i64 0,.int .i64 0,.nilsl,.nilsl,.nilsl]) (o:=false) (sz:=0) (by rw[hh3,T.get_set,if_neg n98,hh2,T.get_set,if_neg n98,T.get_set,if_pos rfl]) rfl rfl
 ·rw[bR];refine⟨Af _,fun c hc hw=>?_⟩;rw[hh4];simp only;rw[T.get_set,if_neg (by omega)]
 rw[bR];simp only[↓sU,sD,rE,↓reduceIte,rA];obtain⟨Y0,hY0⟩:∃Y0:St,Y0=⟨h4,X1.nx⟩:=⟨_,rfl⟩;have g7:Y0.h.get (S.nx+8)=some (.cells [.int .i64 (nodeAt g a).kind,.int .i64 (nodeAt g a).player,.int .i64 (nodeAt g a).info,na,nb,nc] false 0):=by
  rw[hY0,hh4];simp only;rw[T.get_set,if_neg n89,hh3,T.get_set,if_pos rfl];rfl
 have g8:Y0.h.get (S.nx+9)=some (.cells [.int .i64 (nodeAt g b).kind,.int .i64 (nodeAt g b).player,.int .i64 (nodeAt g b).info,ma,mb,mc] false 0):=by
  rw[hY0,hh4];simp only;rw[T.get_set,if_pos rfl];rfl
 have nx1:X1.nx=S.nx+12:=nx1;have sY0:Same S Y0:=by
  rw[hY0];refine⟨by show S.nx≤X1.nx;omega,fun c hc=>?_⟩;rw[hh4,hh3,hh2];simp only;rw[T.get_set,if_neg (by omega),T.get_set,if_neg (by omega),T.get_set,if_neg (by omega),T.get_set,if_neg (by omega)];exact x1.2 c hc
 have nY0:Y0.nx=S.nx+12:=by rw[hY0];exact nx1
 rw[←hY0];clear hY0 hh4 hh3 hh2 hfl h4 h3 h2 hx1 nx1 x1 eal ea eb da db;have hna:=G.nxt a ha;have hnw:=hw a ha;have hnp:=G.pay a ha;refine aC (aC (bF (Q:=fun o A' Y=>o= .normal∧A'.inr=false∧Same Y0 Y∧aD 61 A'.F= .bool (decide (¬ (yZ (nodeAt g a) (nodeAt g b)∧(nodeAt g a).next.length=(nodeAt g b).next.length)))∧aD 0 A'.F=nv∧aD 7 A'.F= .ptr (S.nx+8) 0∧aD 8 A'.F= .ptr (S.nx+9) 0) (aG ?_) ?_))
 ·by_cases h1:(nodeAt g a).kind=(nodeAt g b).kind;rotate_left
  ·have e:decide (¬ (yZ (nodeAt g a) (nodeAt g b)∧(nodeAt g a).next.length=(nodeAt g b).next.length))=true:=Ac fun e=>h1 e.1.1;simp only[↓aA,aB,rE,↓reduceIte,aE,aF,aW,fF g7,fF g8,eJ g7,eJ g8,fE g7,fE g8,fK g7,fK g8,fZ g7,fZ g8,fV g7,fV g8,Ac (show(nodeAt g a).kind≠(nodeAt g b).kind from h1),e];exact Same.refl _
  by_cases h2:(nodeAt g a).player=(nodeAt g b).player;rotate_left
  ·have e:decide (¬ (yZ (nodeAt g a) (nodeAt g b)∧(nodeAt g a).next.length=(nodeAt g b).next.length))=true:=Ac fun e=>h2 e.1.2.1;simp only[↓aA,aB,rE,↓reduceIte,aE,aF,aW,fF g7,fF g8,eJ g7,eJ g8,fE g7,fE g8,fK g7,fK g8,fZ g7,fZ g8,fV g7,fV g8,Aa (show ¬ (nodeAt g a).kind≠(nodeAt g b).kind from fun e=>e h1),Ac (show(nodeAt g a).player≠(nodeAt g b).player from h2),e];exact Same.refl _
  by_cases h3:(nodeAt g a).info=(nodeAt g b).info;rotate_left
  ·have e:decide (¬ (yZ (nodeAt g a) (nodeAt g b)∧(nodeAt g a).next.length=(nodeAt g b).next.length))=true:=Ac fun e=>h3 e.1.2.2.1;simp only[↓aA,aB,rE,↓reduceIte,aE,aF,aW,fF g7,fF g8,eJ g7,eJ g8,fE g7,fE g8,fK g7,fK g8,fZ g7,fZ g8,fV g7,fV g8,Aa (show ¬ (nodeAt g a).kind≠(nodeAt g b).kind from fun e=>e h1),Aa (show ¬ (nodeAt g a).player≠(nodeAt g b).player from fun e=>e h2),Ac (show(nodeAt g a).info≠(nodeAt g b).info from h3),e];exact Same.refl _
  have d1:=Aa (show ¬ (nodeAt g a).kind≠(nodeAt g b).kind from fun e=>e h1);have d2:=Aa (show ¬ (nodeAt g a).player≠(nodeAt g b).player from fun e=>e h2);have d3:=Aa (show ¬ (nodeAt g a).info≠(nodeAt g b).info from fun e=>e h3);by_cases h4:(nodeAt g a).next.length=(nodeAt g b).next.length;rotate_left
  ·have e:decide (¬ (yZ (nodeAt g a) (nodeAt g b)∧(nodeAt g a).next.length=(nodeAt g b).next.length))=true:=Ac fun e=>h4 e.2;simp only[↓aA,aB,rE,↓reduceIte,aE,aF,aW,fF g7,fF g8,eJ g7,eJ g8,fE g7,fE g8,fK g7,fK g8,fZ g7,fZ g8,fV g7,fV g8,d1,d2,d3,bT.self na1,bT.self mb1,na1.len,mb1.len,Ac (show(((nodeAt g a).next.length:Nat):Int)≠(((nodeAt g b).next.length:Nat):Int) by omega),e];exact Same.refl _
  have d4:=Aa (show ¬ (((nodeAt g a).next.length:Nat):Int)≠(((nodeAt g b).next.length:Nat):Int) by omega);simp only[↓aA,aB,rE,↓reduceIte,aE,aF,aW,fF g7,fF g8,eJ g7,eJ g8,fE g7,fE g8,fK g7,fK g8,fZ g7,fZ g8,fV g7,fV g8,d1,d2,d3,d4,bT.self na1,bT.self mb1,bT.self na2,bT.self mb2,na1.len,mb1.len];refine bB ?_;try simp only[↓aA,aB,rE,↓reduceIte]
  refine aN (rK H (na2.same sY0) (mb2.same sY0) (by omega)) ?_;rintro _ Y1 ⟨rfl,y1⟩;have g7':=(y1.2 _ (show S.nx+8<Y0.nx by omega)).trans g7;have g8':=(y1.2 _ (show S.nx+9<Y0.nx by omega)).trans g8;by_cases h5:(nodeAt g a).weights=(nodeAt g b).weights;rotate_left
  ·have e:decide (¬ (yZ (nodeAt g a) (nodeAt g b)∧(nodeAt g a).next.length=(nodeAt g b).next.length))=true:=Ac fun e=>h5 e.1.2.2.2.1;simp only[↓aA,aB,rE,↓reduceIte,Aa h5,fB,Bq,e];exact y1
  simp only[↓aA,aB,rE,↓reduceIte,Ac h5,fB,Bn,aE,aF,aW,fV g7',fV g8',bT.self na3,bT.self mb3];refine bB ?_;try simp only[↓aA,aB,rE,↓reduceIte]
  refine aN (rK H (na3.same (sY0.trans y1)) (mb3.same (sY0.trans y1)) (by omega)) ?_;rintro _ Y2 ⟨rfl,y2⟩;by_cases h6:(nodeAt g a).pay=(nodeAt g b).pay;rotate_left
  ·have e:decide (¬ (yZ (nodeAt g a) (nodeAt g b)∧(nodeAt g a).next.length=(nodeAt g b).next.length))=true:=Ac fun e=>h6 e.1.2.2.2.2;simp only[↓aA,aB,rE,↓reduceIte,Aa h6,fB,Bq,e];exact y1.trans y2
  have e:decide (¬ (yZ (nodeAt g a) (nodeAt g b)∧(nodeAt g a).next.length=(nodeAt g b).next.length))=false:=Aa fun e=>e ⟨⟨h1,h2,h3,h5,h6⟩,h4⟩;simp only[↓aA,aB,rE,↓reduceIte,Ac h6,fB,Bn,e];exact y1.trans y2
 rintro o ⟨F,inr⟩ Y ⟨rfl,q0,yY,p61,p0,p7,p8⟩;simp only at q0 p61 p0 p7 p8;subst q0;have gY7:=(yY.2 _ (show S.nx+8<Y0.nx by omega)).trans g7;have gY8:=(yY.2 _ (show S.nx+9<Y0.nx by omega)).trans g8;have sY:=sY0.trans yY;have nY:=yY.1;clear g7 g8;have hE:=mM hK ha hb;by_cases hl:yZ (nodeAt g a) (nodeAt g b)∧(nodeAt g a).next.length=(nodeAt g b).next.length;rotate_left
 ·rw[Ac hl] at p61;refine aS (by simp only[↓aA,aB,rE,↓reduceIte,p61]) (aC (aG ?_));simp only[↓aA,aB,rE,↓reduceIte];refine aT ?_;simp only[↓aA,aB,rE,↓reduceIte];refine⟨sY,false,rfl,?_⟩;constructor
  ·intro e;cases e
  ·intro e;have:=hE.1 e;exact absurd ⟨this.1,this.2.1⟩ hl
 rw[Aa (fun e=>e hl)] at p61;refine aP (by simp only[↓aA,aB,rE,↓reduceIte,p61]) (aM ?_);try simp only[↓aA,aB,rE,↓reduceIte]
 have hlen:=hl.2;refine aC (bF (Q:=fun o A' Z=>Same S Z∧(o= .normal∧(∀j,j<(nodeAt g a).next.length→EqS g (iI g a j) (iI g b j))∨o= .ret∧aD 6 A'.F= .bool false∧∃j,j<(nodeAt g a).next.length∧¬EqS g (iI g a j) (iI g b j))) (aC (aG ?_)) ?_)
 ·simp only[↓aA,aB,rE,↓reduceIte];refine aO (cA (AlI g S nv a b (aAn (nodeAt g a) na nb nc) (aAn (nodeAt g b) ma mb mc)) ?_ (nodeAt g a).next.length _ _ ⟨rfl,sY,by omega,by simp only[↓aA,aB,rE,↓reduceIte,p0],by simp only[↓aA,aB,rE,↓reduceIte,p7],by simp only[↓aA,aB,rE,↓reduceIte,p8],gY7,gY8,0,by omega,by simp only[↓aA,aB,rE,↓reduceIte],fun j hj=>by omega⟩);clear p0 p7 p8 gY7 gY8 p61;rintro k ⟨F,inr⟩ Z ⟨q0,sZ,nZ,p0,p7,p8,gZ7,gZ8,i,hik,p9,hI⟩;simp only at q0 p0 p7 p8 p9;subst q0;unfold aAn at gZ7 gZ8;refine iU ?_;simp only[↓aA,aB,rE,↓reduceIte,p7,p9,aE,aF,aW,fK gZ7,bT.self na1,na1.len,wL];by_cases hi:i<(nodeAt g a).next.length;rotate_left
  ·refine aP (by simp only[↓aA,aB,rE,↓reduceIte,Aa hi]) (bL ?_);exact⟨sZ,.inl ⟨rfl,fun j hj=>hI j (by omega)⟩⟩
  refine aS (by simp only[↓aA,aB,rE,↓reduceIte,Ac hi]) (aM ?_);try simp only[↓aA,aB,rE,↓reduceIte]
  obtain⟨u1,u2,u3⟩:=hK a ha i hi;obtain⟨w1,w2,w3⟩:=hK b hb i (by omega);have x1:=na1.same sZ;have y1:=mb1.same sZ;have ia:=x1.iaddr hi;have la:=x1.ld hi;have ib:=y1.iaddr (show i<(nodeAt g b).next.length by omega);have lb:=y1.ld (show i<(nodeAt g b).next.length by omega);rw[u3] at la;rw[w3] at lb;have l7:S.nx+8<Z.nx:=by omega
  have l8:S.nx+9<Z.nx:=by omega
  refine aC (aO (aC (mL (fun _=>False) ?_)));intro Z1 z1 hz1 nz1;simp only[↓sU,sD,rE,↓reduceIte,rA,p0,p7,p8,p9,aE,aF,aW,fK gZ7,fK gZ8,bT.self na1,bT.self mb1,aH,ia,ib,la,lb,l7,l8,Ap];refine⟨aFl x1 hi,aFl y1 (by omega),?_⟩;refine cH rfl ?_;simp only[↓sU,sD,rE,↓reduceIte,rA];refine aN (ih _ u1 u2 _ w2 Z1 (s0.trans (sZ.trans z1))) ?_;rintro _ Z2 ⟨z2,β,rfl,hβ⟩;refine⟨z2,?_⟩;simp only[↓sU,sD,rE,↓reduceIte,rA,fB];have zz:=z1.trans z2;have nz:=zz.1;have gW7:=(zz.2 _ l7).trans gZ7;have gW8:=(zz.2 _ l8).trans gZ8;cases β with
  | false=>
   refine aS (by simp only[↓sU,sD,rE,↓reduceIte,rA,Bq]) (aC (aG ?_));simp only[↓sU,sD,rE,↓reduceIte,rA];refine aT ?_;simp only[↓sU,sD,rE,↓reduceIte,rA];exact⟨sZ.trans zz,.inr ⟨i,hi,fun e=>by have:=hβ.2 e;cases this⟩⟩
  | true=>
   refine aP (by simp only[↓sU,sD,rE,↓reduceIte,rA,Bn]) (aM ?_);try simp only[↓sU,sD,rE,↓reduceIte,rA]
   refine aG ?_;simp only[↓sU,sD,rE,↓reduceIte,rA,p9,eH (a:=i) (by omega)];refine⟨k - 1,by omega,rfl,sZ.trans zz,by simp only;omega,by simp only[↓sU,sD,rE,↓reduceIte,rA,p0],by simp only[↓sU,sD,rE,↓reduceIte,rA,p7],by simp only[↓sU,sD,rE,↓reduceIte,rA,p8],gW7,gW8,i+1,by omega,by simp only[↓sU,sD,rE,↓reduceIte,rA],fun j hj=>?_⟩;by_cases e:j=i
   ·rw[e];exact hβ.1 rfl
   ·exact hI j (by omega)
 rintro o ⟨F',inr⟩ Z ⟨sZ,⟨rfl,hI⟩ | ⟨rfl,p6,j,hj,hne⟩⟩
 ·try simp only[↓aA,aB,rE,↓reduceIte]
  refine cC ?_;simp only[↓aA,aB,rE,↓reduceIte];refine aT ?_;simp only[↓aA,aB,rE,↓reduceIte];exact⟨sZ,true,rfl,fun _=>hE.2 ⟨hl.1,hl.2,hI⟩,fun _=>rfl⟩
 ·simp only at p6;simp only[↓aA,aB,rE,↓reduceIte,p6];exact⟨sZ,false,rfl,(fun e=>by cases e),fun e=>absurd ((hE.1 e).2.2 j hj) hne⟩
end Go.Ev.Gl
