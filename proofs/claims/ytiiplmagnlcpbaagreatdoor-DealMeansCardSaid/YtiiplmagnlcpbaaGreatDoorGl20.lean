import Derived.Test.YtiiplmagnlcpbaaGreatDoorGl19
set_option linter.unusedSimpArgs false
set_option linter.unusedVariables false
open Nat renaming reduceEqDiff -> rE, reduceAdd -> rA
set_option maxHeartbeats 0
namespace Go.Ev.Gl
variable {fns:T dD}
def aLd(S:St)(cs:bo)(q:Rat):Prop:=cE S (.agg cs) q
theorem aNh:aKe aLd:=fun h hs=>cE.same h hs
theorem aBz:∀ {a b:bo},noU a=true->noU b=true->noU (a++b)=true
 | [],_,_,h=>h
 | x::l,b,h,h'=>by
  cases x with
  | int k m=>cases k<;>first | exact aBz (a:=l) h h' | (simp [noU] at h)
  | _=>exact aBz (a:=l) h h'
theorem aDn:∀ {a:bo} (n:Nat),noU a=true->noU (a.take n)=true
 | [],n,_=>by rw[List.take_nil];rfl
 | x::l,0,_=>rfl
 | x::l,n+1,h=>by
  rw[Gf];cases x with
  | int k m=>cases k<;>first | exact aDn (a:=l) n h | (simp [noU] at h)
  | _=>exact aDn (a:=l) n h
theorem aDL:∀ {a:bo} (n:Nat),noU a=true->noU (a.drop n)=true
 | [],n,_=>by rw[List.drop_nil];rfl
 | x::l,0,h=>h
 | x::l,n+1,h=>by
  rw[List.drop_succ_cons];cases x with
  | int k m=>cases k<;>first | exact aDL (a:=l) n h | (simp [noU] at h)
  | _=>exact aDL (a:=l) n h
theorem aQV:∀n,noU (repeatL [AV.bool false,.ce,.ce] n)=true/\(repeatL [AV.bool false,.ce,.ce] n).length=n * 3
 | 0=>⟨rfl,rfl⟩
 | n+1=>by
  rw[kH];have⟨h1,h2⟩:=aQV n;exact⟨aBz rfl h1,by rw[Aj,h2];show 3+n * 3=(n+1) * 3;omega⟩
structure uW(X:St)(n i:Nat)(f:Nat->Rat)(C:bo):Prop where
 len:C.length=n * 3
 nou:noU C=true
 at':∀p,p<i->∃x y z,C[p * 3]? =some x/\C[p * 3+1]? =some y/\C[p * 3+2]? =some z/\cE X (.agg [x,y,z]) (f p)
theorem uW.same{X Y:St}{n i:Nat}{f:Nat->Rat}{C:bo}(h:uW X n i f C)(hs:Same X Y):uW Y n i f C:=by
 refine⟨h.len,h.nou,fun p hp=>?_⟩;have⟨x,y,z,h1,h2,h3,h4⟩:=h.at' p hp;exact⟨x,y,z,h1,h2,h3,h4.same hs⟩
theorem uW.is{X:St}{b n:Nat}{f:Nat->Rat}{C:bo}{o:Bool}{s:Nat}(h:uW X n n f C)(hb:X.h.get b=some (.cells C o s))(hl:b<X.nx):bH 3 aLd X (.sl b 0 n n o) ((List.range n).map f):=by
 refine .inr ⟨b,0,n,o,C,by rw[Ce,Eq],by rw[Ce,Eq];exact Af _,hl,by unfold cA;rw[hb];rfl,fun i a hi=>?_⟩;have hin:i<n:=by
  have:=(Ai.1 hi).1
  rwa [Ce,Eq] at this
 rw[Bz,Ge hin] at hi;cases hi;have⟨x,y,z,h1,h2,h3,h4⟩:=h.at' i hin;refine⟨[x,y,z],rfl,fun j w hj=>?_,h4⟩;rw[Ao]
 match j,hj with
 | 0,hj=>cases hj;exact h1
 | 1,hj=>cases hj;exact h2
 | 2,hj=>cases hj;exact h3
theorem uW.put{X Z:St}{b n i:Nat}{f:Nat->Rat}{C:bo}{x y z:AV}{o:Bool}{s:Nat}(h:uW X n i f C)(hi:i<n)(hq:cE X (.agg [x,y,z]) (f i))(hb:X.h.get b=some (.cells C o s))(hs:cB b X Z)(hz:Z.h.get b=some (.cells (C.take (i * 3)++ [x,y,z]++C.drop (i * 3+3)) o s)):uW Z n (i+1) f (C.take (i * 3)++ [x,y,z]++C.drop (i * 3+3)):=by
 have hl:=h.len;have ht:(C.take (i * 3)).length=i * 3:=by rw[Bq];omega
 refine⟨?_,aBz (aBz (aDn _ h.nou) hq.noU) (aDL _ h.nou),fun p hp=>?_⟩
 ·rw[Aj,Aj,ht,Fp];show i * 3+3+(C.length - (i * 3+3))=n * 3;omega
 by_cases e:p=i
 ·subst e;refine⟨x,y,z,?_,?_,?_,hq.stU hb h.nou hs hz⟩
  ·rw[Be,Aq au,ht,show p * 3 - p * 3=0 by omega];rfl
  ·rw[Be,Aq au,ht,show p * 3+1 - p * 3=1 by omega];rfl
  ·rw[Be,Aq au,ht,show p * 3+2 - p * 3=2 by omega];rfl
 ·have⟨x',y',z',h1,h2,h3,h4⟩:=h.at' p au;have key:∀j,j<3->(C.take (i * 3)++ [x,y,z]++C.drop (i * 3+3))[p * 3+j]? =C[p * 3+j]? :=fun j hj=>by
   rw[Be,Ap au,Ft au]
  exact⟨x',y',z',(key 0 au).trans h1,(key 1 au).trans h2,(key 2 au).trans h3,h4.stU hb h.nou hs hz⟩
theorem aKv{d m:Nat}{a:wS}{l:List AO}{F:Fr}{S:St}{Q:Fr->St->Prop}{v:AV}{bl:AB}(he:tA a F S.nx=some (v,bl))(h:∀S1,Same S S1->S1.nx=S.nx+1->S1.h.get S.nx=some bl->nP S S1->pU fns l (cJ (some d) F v) S1 Q):pU fns (⟨some d,.a a,none,m⟩::l) F S Q:=by
 rw[tG];refine⟨(v,bl),he,h _ (Same.alloc S _) rfl ?_ (pH S _)⟩;simp only;rw[dq,if_pos rfl]
noncomputable def aAS(g:bD)(cn:Nat->Int)(sz:Int)(p:Nat):Rat:=((gD g cn p g.bw.length:Int):Rat) * ((sz:Int):Rat)⁻¹
def aRV(g:bD)(ch:bm)(pr:Nat->Nat)(S:St)(r:AV):Prop:=
 (kN g ch pr≠0/\r= .tup [.ce,.int .i64 (kN g ch pr)])\/(kN g ch pr=0/\∃sz cn ls pl v,wW g ch pr sz cn ls pl/\r= .tup [v,.int .i64 0]/\bH 3 aLd S v ((List.range g.b9.toNat).map (aAS g cn sz)))
structure aSv(Y:St)(gb mb n:Nat)(f:Nat->Rat)(ov:AV)(i:Nat)(A:bN)(X:St):Prop where
 inr:A.inr=false
 same:Same Y X
 frs:nP Y X
 row:∃C,X.h.get mb=some (.cells C false 0)/\uW X n i f C
 l2:mb<X.nx
 t2:aB 2 A.F= .ptr gb 0
 t8:aB 8 A.F=ov
 t9:aB 9 A.F= .sl mb 0 n n false
 t28:aB 28 A.F= .int .i64 ((n:Nat):Int)
 t29:aB 29 A.F= .int .i64 (i:Int)
theorem aKd{S:St}{nv iv cv:AV}{g:bD}{ch:bm}{pr:Nat->Nat}(H:Has fns)(hL:Laid S)(hF:lS S)(hn:bH 6 dC S nv g.bw)(hi:bH 2 fO S iv g.bz)(hc:cH .i64 S cv ch)(hln:g.bw.length<=100000)(hll:ch.length<=10000000)(hpr:eO g=0->nC g pr):
  eT fns (.fn 12 [] []) [.agg [.int .i64 g.b9,nv,iv],cv] S fun r S'=>Same S S'/\aRV g ch pr S' r:=by
 refine bL H.f12 (by simp) ?_;refine ap ?_;refine bK ?_;refine qW (cs:=[.int .i64 g.b9,nv,iv]) rfl ?_;intro S1 s1 n1 g1 f1;refine ae ?_;refine bK (cp (jT g1) ?_);refine aL (ae ?_);refine aF (jN (sA (pr:=pr) H (bH.same (E:=dC) cR hn s1) (bH.same (E:=fO) fC hi s1) (hc.same s1) hln hll hpr)) ?_;rintro _ X ⟨⟨hX,rfl⟩,f2⟩;have sX:=s1.trans hX;have gX:=(hX.2 _ (show S.nx<S1.nx by omega)).trans g1;have hnX:=bH.same (E:=dC) cR hn sX;refine c9 @tU @tP ?_;refine fA (ae ?_);by_cases hR:kN g ch pr=0;rotate_left
 ·refine aP (by simp only[↓sU,sD,rE,↓reduceIte,rA,Ac hR]) (aE (aM ?_));refine ae ?_;refine aK (ae ?_);exact⟨sX,.inl ⟨hR,rfl⟩⟩
 refine aO (by simp only[↓sU,sD,rE,↓reduceIte,rA,Aa (show ¬kN g ch pr≠0 from fun h=>h hR)]) (aJ ?_);try refine ae ?_
 have⟨sz,cn,ls,pl,R⟩:=aJR hR hpr;refine bK (c9 (jT gX) R.eN ?_);refine aL (ae ?_);refine aF (jN (aAN H R.G hnX (hc.same sX) R.fit R.C (aw R.s1) R.s2)) ?_;rintro r Y ⟨⟨hr,hY⟩,f3⟩;have il:=aHm.is hr;have sY:=sX.trans hY;have fY:=f1.trans (f2.trans f3);have lgY:S.nx<Y.nx:=by have:=hX.1;have:=hY.1;omega
 have gY:=(hY.2 _ (show S.nx<X.nx by have:=hX.1;omega)).trans gX;obtain⟨N,hN⟩:∃N:Nat,g.b9=(N:Int):=⟨g.b9.toNat,aw R.G.prs⟩;have hN4:N<=4:=by have:=R.G.prs;omega
 have hnat:dS (.int .i64 g.b9)=some N:=by rw[hN,aW]
 try refine ap ?_
 refine bK (d9 @aD @aC (wQ gY) ?_);refine aKv (oJ (n:=N) (ar hnat) (ar hnat) ax ax) ?_;intro Z z1 nz gz fz;refine ae ?_;have⟨zz1,zz2⟩:=aQV N;generalize repeatL [AV.bool false,.ce,.ce] N=C0 at gz zz1 zz2;have mbe:Y.nx<Z.nx:=by omega
 have hlen:lB (.sl Y.nx 0 N N false)=some (.int .i64 ((N:Nat):Int)):=rfl;refine aE (bG (Q:=fun o A' X=>o= .normal/\aSv Y S.nx Y.nx N (aAS g cn sz) r N A' X) (aE (aM ?_)) ?_);rotate_left
 ·rintro o ⟨F,inr⟩ W ⟨rfl,M⟩;obtain rfl:inr=false:=M.inr;have t9:=M.t9;simp only at t9;have⟨C,hC,hA⟩:=M.row;refine bK (cp t9 ?_);refine aK (ae ?_);exact⟨sY.trans M.same,.inr ⟨hR,sz,cn,ls,pl,_,R,rfl,by rw[hN,Bd];exact hA.is hC M.l2⟩⟩
 refine cp hlen ?_;refine aQ (bX (fun k A X=>∃i,i+k=N/\aSv Y S.nx Y.nx N (aAS g cn sz) r i A X) ?_ N _ _ ⟨0,au,rfl,z1,fz,⟨C0,gz,zz2,zz1,fun p hp=>absurd hp au⟩,mbe,af,af,af,af,ag⟩);rintro k ⟨F,inr⟩ W ⟨i,hik,M⟩;obtain rfl:inr=false:=M.inr;have t2:=M.t2;have t8:=M.t8;have t9:=M.t9;have t28:=M.t28;have t29:=M.t29;simp only at t2 t8 t9 t28 t29;refine bK (c9 t28 t29 ?_);by_cases hlt:i<N;rotate_left
 ·refine aE (aO (by simp only[↓sU,sD,rE,↓reduceIte,rA,Aa (show ¬ (i:Int)<((N:Nat):Int) by omega)]) (bS ?_));refine ae ?_;obtain rfl:i=N:=by omega
  exact⟨rfl,M.same,M.frs,M.row,M.l2,ah t2,ah t8,ah t9,ah t28,ah t29⟩
 refine aE (aP (by simp only[↓sU,sD,rE,↓reduceIte,rA,Ac (show(i:Int)<((N:Nat):Int) by omega)]) (aJ ?_));try refine ae ?_
 have w0:=dk i
 have sW:=sY.trans M.same;have fW:=fY.trans M.frs;have gW:=(M.same.2 _ lgY).trans gY;refine aE (aQ (aE (aM ?_)));refine cp t29 ?_;refine bK (di t9 t2 t8 (jT gW) ?_);refine aL (ae ?_);refine aF (jN (aLe (p:=i) H (hL.same sW) (fW.1 hF) R.G R.pay (bH.same (E:=dC) cR hn sW) (il.same M.same) rfl R.cb R.C.zero R.s1 R.s2 au)) ?_;rintro _ V ⟨⟨x,y,z,rfl,hq,hV⟩,fV⟩;have⟨C,hC,hA⟩:=M.row;have hCV:=(hV.2 _ M.l2).trans hC;have hAV:=hA.same hV;have hCl:=hAV.len;have ia:dT (.slice 3) (.sl Y.nx 0 N N false) i=some (.ptr Y.nx (i * 3)):=by
  simp only[dT];rw[show Nat.blt i N=true from Ah hlt,aN,Ao]
 refine ed @tU @tP @aW ia ?_;refine fK (v:=.undef) (S1:=⟨V.h.set Y.nx (some (.cells (C.take (i * 3)++ [x,y,z]++C.drop (i * 3+3)) false 0)),V.nx⟩) (fun call=>by refine d7 @dW @aS ?_;exact aM3 (e:=[x,y,z]) hCV (by show i * 3+3<=C.length;omega) rfl) ?_;refine ae ?_;refine bK (ae ?_);refine aO (by simp only[↓sU,sD,rE,↓reduceIte,rA,Aa (show ¬ (0:Int)≠0 by omega)]) (aJ ?_);try refine ae ?_
 refine aM (c9 t29 w0 ?_);have sb:cB Y.nx V ⟨V.h.set Y.nx (some (.cells (C.take (i * 3)++ [x,y,z]++C.drop (i * 3+3)) false 0)),V.nx⟩:=(cB.refl _ _).put _;have gb:(⟨V.h.set Y.nx (some (.cells (C.take (i * 3)++ [x,y,z]++C.drop (i * 3+3)) false 0)),V.nx⟩:St).h.get Y.nx=some (.cells (C.take (i * 3)++ [x,y,z]++C.drop (i * 3+3)) false 0):=by simp only;rw[dq,if_pos rfl]
 exact⟨k - 1,au,i+1,au,rfl,sb.same (M.same.trans hV) (Af _),M.frs.trans (fV.trans (qJ hCV _)),⟨_,gb,hAV.put hlt hq hCV sb gb⟩,Ag M.l2 hV.1,ah t2,ah t8,ah t9,ah t28,af⟩
section
variable {F:Fr}{inr:Bool}{X Y:St}{sb gb i j p:Nat}{pv q0 q1 q2 g0 nv iv lv:AV}{C:bo}{g:bD}{l:bm}{f:Nat->Rat}{m sz:Int}{Q:Out->bN->St->Prop}
end
theorem xF{g:bD}{cn cn':Nat->Int}{p:Nat}:∀ {n:Nat},(∀j,j<n->cn j=cn' j)->gD g cn p n=gD g cn' p n
 | 0,_=>rfl
 | n+1,h=>by
  show gD g cn p n+rU g cn p n=gD g cn' p n+rU g cn' p n;rw[xF fun j hj=>h j au];unfold rU;rw[h n au]
theorem aJ1{g:bD}{ch:bm}{pr:Nat->Nat}{sz:Int}{cn ls pl:Nat->Int}(R:wW g ch pr sz cn ls pl)(p:Nat):aFC (aAS g cn sz p):=by
 have h1:=R.s1;have h2:=R.s2;have b1:=aBQ (p:=p) R.pay R.cb R.G.good.n2 (Af _);have b2:=zH (a:=sz) au au;exact((uO.mul b1 (uO.inv b2 (by show sz≠0;omega))).half ay).fits
theorem aP0{g:bD}{j:Int}:∀ (cn ls cn' ls':Nat->Int),0<=j->j<(g.bw.length:Int)->cn j.toNat=cn' j.toNat->ls j.toNat=ls' j.toNat->(fun(cn _:Nat->Int)=>(cn j.toNat,(0:Int))) cn ls=(fun(cn _:Nat->Int)=>(cn j.toNat,(0:Int))) cn' ls':=fun cn ls cn' ls' _ _ h1 _=>by simp only[h1]
theorem aP3{g:bD}{j:Int}:∀ (cn ls cn' ls':Nat->Int),0<=j->j<(g.bw.length:Int)->cn j.toNat=cn' j.toNat->ls j.toNat=ls' j.toNat->aEO j.toNat cn ls=aEO j.toNat cn' ls':=fun cn ls cn' ls' _ _ h1 h2=>by unfold aEO;rw[h1,h2]
end Go.Ev.Gl
