import Derived.Test.YtiiplmagnlcpbaaGreatDoorGl11
set_option linter.unusedSimpArgs false
set_option linter.unusedVariables false
open Nat renaming reduceEqDiff -> rE, reduceAdd -> rA
set_option maxHeartbeats 0
namespace Go.Ev.Gl
variable {fns:T dD}
def okC(g:bD)(l:bm)(i:Nat):Prop:=0<=l.getD i 0/\l.getD i 0<(ck g (i:Int)).cd
instance okCDec(g:bD)(l:bm)(i:Nat):Decidable (okC g l i):=by unfold okC;exact inferInstance
def xI(g:bD)(l:bm):Int:=if l.length≠g.bz.length then 10 else if ∀i,i<l.length->okC g l i then 0 else 2
noncomputable def aBO(g:bD)(l:bm)(pr:Nat->Nat):Int:=if eO g≠0 then 0 else if xI g l≠0 then 0 else aAW g pr
noncomputable def kN(g:bD)(l:bm)(pr:Nat->Nat):Int:=if eO g≠0 then eO g else if xI g l≠0 then xI g l else aCi g pr
theorem aGg{g:bD}{l:bm}{pr:Nat->Nat}{e:Int}(h0:eO g=0)(h:xI g l=e)(he:e≠0):aBO g l pr=0/\kN g l pr=e:=by
 subst h;unfold aBO kN;simp only[h0,he,ne_eq,Cr,Am,Bx,Cq,and_self]
theorem aJl{g:bD}{l:bm}{pr:Nat->Nat}(h0:eO g=0)(h:xI g l=0):aBO g l pr=aAW g pr/\kN g l pr=aCi g pr:=by
 unfold aBO kN;simp only[h0,h,ne_eq,Cr,Bx,and_self]
theorem aCD{g:bD}{i:Nat}(hi:i<g.bz.length):g.bz[i]? =some (ck g (i:Int)):=by
 unfold ck;rw[Bd,Ae,Ad hi];rfl
theorem aNG{g:bD}{l:bm}(h:l.length≠g.bz.length):xI g l=10:=by unfold xI;rw[if_pos h]
theorem aKq{g:bD}{l:bm}(h:l.length=g.bz.length)(ha:∀i,i<l.length->okC g l i):xI g l=0:=by unfold xI;rw[if_neg (fun h'=>h' h),if_pos ha]
theorem aHY{g:bD}{l:bm}{i:Nat}(h:l.length=g.bz.length)(hi:i<l.length)(ha:¬okC g l i):xI g l=2:=by unfold xI;rw[if_neg (fun h'=>h' h),if_neg (fun h'=>ha (h' i hi))]
theorem zE{g:bD}{l:bm}(h:xI g l=0):l.length=g.bz.length/\∀i,i<l.length->okC g l i:=by
 unfold xI at h;split at h
 ·cases h
 rename_i h1;split at h
 ·rename_i h2;exact⟨Hk.1 h1,h2⟩
 ·cases h
def ChI(S:St)(gb:Nat)(cg:Option AB)(v:AV)(g:bD)(l:bm)(k:Nat)(A:bN)(X:St):Prop:=A.inr=false/\Same S X/\gb<X.nx/\X.h.get gb=cg/\∃i,i+k=l.length/\(∀j,j<i->okC g l j)/\aB 2 A.F= .ptr gb 0/\aB 20 A.F=v/\aB 21 A.F= .int .i64 (l.length:Int)/\aB 22 A.F= .int .i64 (i:Int)
theorem aPV{g:bD}{l:bm}{i:Nat}(h:∀j,j<i->okC g l j)(hi:okC g l i):∀j,j<i+1->okC g l j:=fun j hj=>by
 by_cases e:j=i
 ·subst e;exact hi
 ·exact h j au
theorem sA{S:St}{nv iv cv:AV}{g:bD}{l:bm}{pr:Nat->Nat}(H:Has fns)(hn:bH 6 dC S nv g.bw)(hi:bH 2 fO S iv g.bz)(hc:cH .i64 S cv l)(hln:g.bw.length<=100000)(hll:l.length<=10000000)(hpr:eO g=0->nC g pr):
  eT fns (.fn 29 [] []) [.agg [.int .i64 g.b9,nv,iv],cv] S fun r S'=>Same S S'/\r= .tup [.int .i64 (aBO g l pr),.int .i64 (kN g l pr)]:=by
 refine bL H.f29 (by simp) ?_;refine ae ?_;refine bK ?_;refine cD (cs:=[.int .i64 g.b9,nv,iv]) rfl ?_;intro S1 s1 n1 c1;refine ae ?_;refine fA (cp (jT c1) ?_);refine aL (ae ?_);refine aF (aFq H (bH.same (E:=dC) cR hn s1) (bH.same (E:=fO) fC hi s1) hln) ?_;rintro _ X ⟨rfl,hX⟩;have sX:=s1.trans hX;have lgX:S.nx<X.nx:=Ag (show S.nx<S1.nx by omega) hX.1;have cX:=(hX.2 _ (show S.nx<S1.nx by omega)).trans c1;try refine ae ?_
 refine bK (ae ?_);by_cases h0:eO g=0;rotate_left
 ·unfold aBO kN;rw[if_pos h0,if_pos h0];refine aP (by simp only[↓sU,sD,rE,↓reduceIte,rA,Ac (show eO g≠0 from h0)]) ?_;refine bK (ae ?_);refine aK (ae ?_);exact sX
 refine aO (by simp only[↓sU,sD,rE,↓reduceIte,rA,Aa (show ¬eO g≠0 from fun h=>h h0)]) (aJ ?_);try refine ae ?_
 have hcl:=hc.len;have hil:=hi.len;refine fA (du @aD @aC (zP cX) hcl hil ?_);by_cases hlen:l.length=g.bz.length;rotate_left
 ·have hE:=aNG hlen;have⟨r1,r2⟩:=aGg (pr:=pr) h0 hE au;rw[r1,r2];refine aP (by simp only[↓sU,sD,rE,↓reduceIte,rA,Ak,Ac (show(l.length:Int)≠(g.bz.length:Int) by omega)]) ?_;refine bK (ae ?_);refine aK (ae ?_);exact sX
 refine aO (by simp only[↓sU,sD,rE,↓reduceIte,rA,Ak,Aa (show ¬ (l.length:Int)≠(g.bz.length:Int) by omega)]) (aJ ?_);try refine ae ?_
 refine aE (bG (Q:=fun o A' Z=>(o= .normal/\ChI S S.nx (some (.cells [.int .i64 g.b9,nv,iv] false 0)) cv g l 0 A' Z)\/(o= .ret/\Same S Z/\xI g l=2/\aB 4 A'.F= .int .i64 0/\aB 5 A'.F= .int .i64 2)) (aE (aM ?_)) ?_)
 ·refine c9 hcl @Ak ?_;refine aQ (bX (ChI S S.nx (some (.cells [.int .i64 g.b9,nv,iv] false 0)) cv g l) ?_ l.length _ _ ⟨rfl,sX,lgX,cX,0,au,fun j hj=>au,by refine⟨?_,?_,?_,?_⟩<;>simp only[↓sU,sD,rE,↓reduceIte,rA]⟩);rintro k ⟨F,inr⟩ V ⟨q0,hV,lgV,cV,i,hik,hok,p2,p20,p21,p22⟩;simp only at q0 p2 p20 p21 p22;subst q0;refine bK (c9 p21 p22 ?_);by_cases hlt:i<l.length;rotate_left
  ·refine aE (aO (by simp only[↓sU,sD,rE,↓reduceIte,rA,Aa (show ¬ (i:Int)<(l.length:Int) by omega)]) (bS ?_));refine ae ?_;have hk0:k=0:=by omega
   subst hk0;exact .inl ⟨rfl,hV,lgV,cV,i,hik,hok,by refine⟨?_,?_,?_,?_⟩<;>simp only[↓sU,sD,rE,↓reduceIte,rA,p2,p20,p21,p22]⟩
  refine aE (aP (by simp only[↓sU,sD,rE,↓reduceIte,rA,Ac (show(i:Int)<(l.length:Int) by omega)]) (aJ ?_));try refine ae ?_
  have hcV:=hc.same hV;have ia:=hcV.cq hlt;have la:=hcV.ld hlt;have⟨ei,bi,qi,hii,hbi,_,hei,_,hfi⟩:=bH.at (bH.same (E:=fO) fC hi hV) ay (aCD (show i<g.bz.length by omega));have hei:ei= [.int .i64 (ck g (i:Int)).player,.int .i64 (ck g (i:Int)).cd]:=hei;subst hei;have l1:=hfi 1 _ rfl;have w0:=dk i
  refine aE (aQ (aE (aM ?_)));refine du p20 p22 @aW ia la ?_;refine bK ?_;by_cases hneg:l.getD i 0<0
  ·refine cp (Ac hneg) ?_;refine aP (by try simp only[↓sU,sD,rE,↓reduceIte,rA]) ?_;refine bK (ae ?_);refine aK (ae ?_);exact .inr ⟨hV,aHY hlen hlt (fun h=>aw h.1)⟩
  refine dy p2 (Aa hneg) @aD @aC (zP cV) @aW hii l1 ?_;by_cases hge:(ck g (i:Int)).cd<=l.getD i 0
  ·refine aP (by simp only[↓sU,sD,rE,↓reduceIte,rA,Ac hge]) ?_;refine bK (ae ?_);refine aK (ae ?_);exact .inr ⟨hV,aHY hlen hlt (fun h=>aw h.2)⟩
  refine aO (by simp only[↓sU,sD,rE,↓reduceIte,rA,Aa hge]) (aJ ?_);try refine ae ?_
  refine aM (c9 p22 w0 ?_);exact⟨k - 1,au,rfl,hV,lgV,cV,i+1,au,aPV hok ⟨au,au⟩,by refine⟨?_,?_,?_,?_⟩<;>simp only[↓sU,sD,rE,↓reduceIte,rA,p2,p20,p21]⟩
 rintro o ⟨F,inr⟩ Z (⟨rfl,q0,hZ,lgZ,cZ,i,hik,hok,p2,_⟩ | ⟨rfl,hZ,hE,p4,p5⟩);rotate_left
 ·simp only at p4 p5;refine c9 p4 p5 ?_;have⟨r1,r2⟩:=aGg (pr:=pr) h0 hE au;rw[r1,r2];exact⟨hZ,rfl⟩
 simp only at q0 p2;subst q0;obtain rfl:i=l.length:=by omega
 have hE:=aKq hlen hok;have⟨r1,r2⟩:=aJl (pr:=pr) h0 hE;rw[r1,r2];try refine ae ?_
 refine bK (c9 p2 (jT cZ) ?_);refine aL (ae ?_);refine aF (aFF (pr:=pr) H (bH.same (E:=dC) cR hn hZ) (bH.same (E:=fO) fC hi hZ) hln hpr) ?_;rintro _ W ⟨hW,rfl⟩;rw[if_pos h0];refine c9 @tU @tP ?_;refine aK (ae ?_);exact hZ.trans hW
noncomputable def lM(g:bD)(l:bm)(pr:Nat->Nat)(s:Int):Int:=if kN g l pr≠0 then kN g l pr else if s<0\/aBO g l pr<=s then 2 else 0
theorem yP{g:bD}{l:bm}{pr:Nat->Nat}(h:kN g l pr=0):eO g=0/\xI g l=0:=by
 by_cases h0:eO g=0
 ·by_cases h1:xI g l=0
  ·exact⟨h0,h1⟩
  ·exact absurd ((aGg (pr:=pr) h0 rfl h1).2.symm.trans h) h1
 ·unfold kN at h;rw[if_pos h0] at h;exact absurd h h0
theorem aJN{g:bD}{l:bm}{pr:Nat->Nat}{s:Int}(h:lM g l pr s=0):kN g l pr=0/\0<=s/\s<aBO g l pr:=by
 by_cases h1:kN g l pr=0
 ·unfold lM at h;rw[if_neg (fun h'=>h' h1)] at h;split at h
  ·cases h
  ·omega
 ·unfold lM at h;rw[if_pos h1] at h;exact absurd h h1
def aQR(S:St)(v:AV)(g:bD)(l:bm)(pr:Nat->Nat)(s:Int)(r:AV)(X:St):Prop:=Same S X/\∃x,r= .tup [x,.int .i64 (lM g l pr s)]/\(lM g l pr s≠0->x= .ce)/\(lM g l pr s=0->cH .i64 X x (iE g (rB v l) g.bw.length 0 s.toNat))
theorem mkF{t s:Nat}{v:AV}{F:Fr}{h:Ev.T AB}(e:aB s F=v):iT (.mkIface t (.t s)) F h=some (.iface t v):=by show some (AV.iface _ (aB s F))=_;rw[e]
theorem aLJ{S:St}{nv iv cv:AV}{g:bD}{l:bm}{pr:Nat->Nat}{s:Int}(H:Has fns)(hn:bH 6 dC S nv g.bw)(hi:bH 2 fO S iv g.bz)(hc:cH .i64 S cv l)(hln:g.bw.length<=100000)(hll:l.length<=10000000)(hs:s<=9223372036854775807)(hpr:eO g=0->nC g pr):
  eT fns (.fn 17 [] []) [.agg [.int .i64 g.b9,nv,iv],cv,.int .i64 s] S (aQR S cv g l pr s):=by
 refine bL H.f17 (by simp) ?_;refine ae ?_;refine bK ?_;refine cD (cs:=[.int .i64 g.b9,nv,iv]) rfl ?_;intro S1 s1 n1 c1;refine ae ?_;refine bK (cp (jT c1) ?_);refine aL (ae ?_);refine aF (sA (pr:=pr) H (bH.same (E:=dC) cR hn s1) (bH.same (E:=fO) fC hi s1) (hc.same s1) hln hll hpr) ?_;rintro _ X ⟨hX,rfl⟩;have sX:=s1.trans hX;have cX:=(hX.2 _ (show S.nx<S1.nx by omega)).trans c1;refine c9 @tU @tP ?_;refine fA (ae ?_);by_cases h1:kN g l pr=0;rotate_left
 ·have hE:lM g l pr s=kN g l pr:=by unfold lM;rw[if_pos h1]
  refine aP (by simp only[↓sU,sD,rE,↓reduceIte,rA,Ac (show kN g l pr≠0 from h1)]) ?_;refine bK (ae ?_);refine aK (ae ?_);exact⟨sX,.ce,by rw[hE],fun _=>rfl,fun h=>absurd (hE.symm.trans h) h1⟩
 refine aO (by simp only[↓sU,sD,rE,↓reduceIte,rA,Aa (show ¬kN g l pr≠0 from fun h=>h h1)]) (aJ ?_);try refine ae ?_
 have hE:lM g l pr s=if s<0\/aBO g l pr<=s then 2 else 0:=by unfold lM;rw[if_neg (fun h=>h h1)]
 refine fA ?_;by_cases hneg:s<0
 ·rw[if_pos (.inl hneg)] at hE;refine cp (Ac hneg) ?_;refine aP (af) ?_;refine bK (ae ?_);refine aK (ae ?_);exact⟨sX,.ce,by rw[hE],fun _=>rfl,fun h=>by rw[hE] at h;cases h⟩
 by_cases hge:aBO g l pr<=s
 ·rw[if_pos (.inr hge)] at hE;refine cp (Aa hneg) ?_;refine aP (by simp only[↓sU,sD,rE,↓reduceIte,rA,Ac hge]) ?_;refine bK (ae ?_);refine aK (ae ?_);exact⟨sX,.ce,by rw[hE],fun _=>rfl,fun h=>by rw[hE] at h;cases h⟩
 rw[if_neg au] at hE;refine cp (Aa hneg) ?_;refine aO (by simp only[↓sU,sD,rE,↓reduceIte,rA,Aa hge]) (aJ ?_);try refine ae ?_
 have⟨h0,hch⟩:=yP h1;have G:=rF h0;have⟨hlen,hok⟩:=zE hch;obtain⟨n,rfl⟩:∃n:Nat,s=(n:Int):=⟨s.toNat,au⟩;have hm:dK (.mkIface 65 (.t 27))=false:=rfl;refine bK (c9 (jT cX) hm ?_);rw[mkF (v:=cv) (af)];refine ae ?_;refine aL (ae ?_);have hcX:=hc.same sX;refine aF (aEW (D:=rB cv l) (s:=n) H G (bH.same (E:=dC) cR hn sX) (fun i hi hk=>aJa H G hcX hlen hok hi hk) au) ?_;rintro r Y ⟨hY,hr⟩;try refine ae ?_
 refine aK (ae ?_);exact⟨sX.trans hY,r,by rw[hE],fun h=>absurd hE h,fun _=>by rw[Bd];exact hr⟩
def aS6(_:St)(cs:bo)(x:Int):Prop:=cs= [.int .i64 x]
theorem toG{S:St}{v:AV}{l:bm}(h:cH .i64 S v l):bH 1 aS6 S v l:=by
 rcases h with h | ⟨b,off,cap,o,cs,rfl,hc,hb,hcs,hel⟩
 ·exact .inl h
 ·refine .inr ⟨b,off,cap,o,cs,rfl,hc,hb,hcs,fun i a hi=>⟨[.int .i64 a],rfl,fun j x hj=>?_,rfl⟩⟩;cases j with
  | zero=>simp at hj;subst hj;rw[Bt,Bm];exact hel i a hi
  | succ j=>simp at hj
theorem ofG{S:St}{v:AV}{l:bm}(h:bH 1 aS6 S v l):cH .i64 S v l:=by
 rcases h with h | ⟨b,off,cap,o,cs,rfl,hc,hb,hcs,hel⟩
 ·exact .inl h
 ·refine .inr ⟨b,off,cap,o,cs,rfl,hc,hb,hcs,fun i a hi=>?_⟩;have⟨e,_,h2,h3⟩:=hel i a hi;have h3:e= [.int .i64 a]:=h3;subst h3;have:=h2 0 _ rfl;rw[Bt,Bm] at this;exact this
theorem bH.moveB{k:Nat}{α:Type}{E:St->bo->α->Prop}{S S':St}{v:AV}{l:List α}(h:bH k E S v l)(hn:S.nx<=S'.nx)(hh:∀c,bP v=some c->S'.h.get c=S.h.get c)(hE:∀e a,E S e a->E S' e a):bH k E S' v l:=by
 rcases h with h | ⟨b,off,cap,o,cs,rfl,hc,hb,hcs,hel⟩
 ·exact .inl h
 ·refine .inr ⟨b,off,cap,o,cs,rfl,hc,Ag hb hn,?_,fun i a hi=>?_⟩
  ·unfold cA;rw[hh b rfl];exact hcs
  ·have⟨e,e1,e2,e3⟩:=hel i a hi;exact⟨e,e1,e2,hE e a e3⟩
theorem aH9{g:bD}{v w:AV}{l:bm}:∀ {k i s:Nat},iE g (rB v l) k i s=iE g (rB w l) k i s
 | 0,_,_=>rfl
 | k+1,i,s=>by
  have h1:(eM (rB v l) (cj g i)).rad (cj g i)=(eM (rB w l) (cj g i)).rad (cj g i):=by unfold eM;split<;>rfl
  have h2:∀d,(eM (rB v l) (cj g i)).chs (cj g i) d=(eM (rB w l) (cj g i)).chs (cj g i) d:=fun d=>by unfold eM;split<;>rfl
  simp only[iE,h1,h2,aH9 (v:=v) (w:=w) (k:=k)]
theorem aIK{S:St}{g:bD}{D:Dec}(H:Has fns)(G:fH g)(hD:∀i,i<g.bw.length->(cj g i).kind=2->aG9 fns S D (cj g i)):∀ {k i s:Nat},i<g.bw.length->g.bw.length<=k+i->1<=(iE g D k i s).length/\(iE g D k i s).length<=k/\(∀j,j<(iE g D k i s).length->0<=(iE g D k i s).getD j 0/\(iE g D k i s).getD j 0<g.bw.length)/\(cj g ((iE g D k i s).getD ((iE g D k i s).length - 1) 0).toNat).kind=3
 | 0,i,s,hi,hk=>by omega
 | k+1,i,s,hi,hk=>by
  simp only[iE];split
  ·rename_i hk3;refine⟨by simp,by simp,fun j hj=>?_,by simpa using hk3⟩;have:j=0:=by simpa using hj
   subst this;simp only[List.getD_cons_zero];omega
  ·rename_i hk3;have hDA:aG9 fns S (eM D (cj g i)) (cj g i):=by
    unfold eM;split
    ·rename_i h;exact aM4 H G hi h
    ·rename_i h;rcases G.knd i hi with h4 | h4 | h4
     ·exact absurd h4 h
     ·exact hD i hi h4
     ·exact absurd h4 hk3
   have⟨b1,b2⟩:=G.good.kids i hi _ (hDA.lt _ (Dj s hDA.pos));generalize (cj g i).next.getD ((eM D (cj g i)).chs (cj g i) (s % (eM D (cj g i)).rad (cj g i))) 0=c at *;have⟨c1,c2,c3,c4⟩:=aIK (s:=s / (eM D (cj g i)).rad (cj g i)) H G hD (k:=k) (i:=c.toNat) au au;refine⟨by simp,by simp only[Av];omega,fun j hj=>?_,?_⟩;rotate_left
   ·rw[Av,Er];generalize iE g D k c.toNat _=L at *;obtain⟨n,hn⟩:∃n,L.length=n+1:=⟨L.length - 1,au⟩;rw[hn,List.getD_cons_succ];rw[hn,Er] at c4;exact c4
   cases j with
   | zero=>simp only[List.getD_cons_zero];omega
   | succ j=>simp only[List.getD_cons_succ];exact c3 j (by simpa using hj)
def gR(g:bD)(l:bm)(s:Int):bm:=iE g (rB .ce l) g.bw.length 0 s.toNat
def aAa(g:bD)(l:bm)(s:Int):bm:=(cj g ((gR g l s).getD ((gR g l s).length - 1) 0).toNat).pay
def aT3(S:St)(g:bD)(l:bm)(pr:Nat->Nat)(s:Int)(r:AV)(X:St):Prop:=Same S X/\∃x,r= .tup [x,.int .i64 (lM g l pr s)]/\(lM g l pr s≠0->x= .ce)/\(lM g l pr s=0->cH .i64 X x (aAa g l s))
theorem aC3{S:St}{v:AV}{g:bD}{l:bm}{pr:Nat->Nat}{s:Int}(H:Has fns)(hc:cH .i64 S v l)(h:lM g l pr s=0):fH g/\iE g (rB v l) g.bw.length 0 s.toNat=gR g l s/\1<=(gR g l s).length/\(gR g l s).length<=100000/\(∀j,j<(gR g l s).length->0<=(gR g l s).getD j 0/\(gR g l s).getD j 0<g.bw.length)/\(aAa g l s).length<=10000000:=by
 have⟨h1,_,_⟩:=aJN h;have⟨h0,hch⟩:=yP h1;have G:=rF h0;have⟨hlen,hok⟩:=zE hch;have e:iE g (rB v l) g.bw.length 0 s.toNat=gR g l s:=aH9;have⟨a,b,c,d⟩:=aIK (s:=s.toNat) H G (fun i hi hk=>aJa H G hc hlen hok hi hk) (k:=g.bw.length) G.good.n1 au;rw[e] at a b c d;have:=G.good.n2;have hlt:=c _ (show(gR g l s).length - 1<(gR g l s).length by omega);have hpp:=G.pay _ au d;have:=G.prs;exact⟨G,e,a,au,c,by unfold aAa;omega⟩
theorem aK1{base:Nat}{suf:List AO}{Q:DS->Prop}:∀ {pre:List AO} {i:Nat} {D:DS},wpd fns pre i base D (fun D'=>wpd fns suf (i+pre.length) base D' Q)->wpd fns (pre++suf) i base D Q:=by
 intro pre i D h;obtain⟨n,D1,h1,k,D2,h2,h3⟩:=h;refine⟨max n k,D2,?_,h3⟩;have h1':=tQ (lG fns (Gs n k)).call h1;have h2':=tQ (lG fns (Gi n k)).call h2;clear h1 h2
 induction pre generalizing i D with
 | nil=>cases h1';exact h2'
 | cons o os ih=>
  show aU (tB o i base (ev fns (max n k)).call D) _=_;have h1'':aU (tB o i base (ev fns (max n k)).call D) (fun D'=>rG os (i+1) base (ev fns (max n k)).call D')=some D1:=h1';cases he:tB o i base (ev fns (max n k)).call D with
  | none=>rw[he] at h1'';cases h1''
  | some D'=>
   rw[he,aH] at h1'';rw[aH];exact ih h1'' (by rw[Av] at h2';rw[show i+1+os.length=i+(os.length+1) by omega];exact h2')
def Low(K:Nat)(D:DS):Prop:=(∀e∈D.hs,e.1<K)/\∀l∈D.ls,l.i<K/\l.mask<2 ^ K
theorem aPU{call:dR}{o:AO}{i base K:Nat}{D D':DS}(h:tB o i base call D=some D')(hi:i<K)(hm:o.mask<2 ^ K)(hD:Low K D):Low K D':=by
 unfold tB at h;cases hw:fI o.grd D.F with
 | false=>rw[hw,aR] at h;cases h;exact hD
 | true=>
  rw[hw,aN] at h;have⟨d,op,g,m⟩:=o;cases op with
  | q q=>
   have h:aU (iT q D.F D.S.h) (fun v=>some (⟨cJ d D.F v,D.S,D.ps,D.hs,bO (dK q) (⟨q,D.F,v,i,m⟩::D.ls) D.ls⟩:DS))=some D':=h;cases he:iT q D.F D.S.h with
   | none=>rw[he] at h;cases h
   | some v=>
    rw[he,aH] at h;cases h;refine⟨hD.1,fun l hl=>?_⟩;simp only at hl;cases hq:dK q with
    | false=>rw[hq,aR] at hl;exact hD.2 l hl
    | true=>
     rw[hq,aN] at hl;rcases Br.1 hl with rfl | hl
     ·exact⟨hi,hm⟩
     ·exact hD.2 l hl
  | a a=>
   have h:aU (tA a D.F (base+i)) (fun r=>some (⟨cJ d D.F r.1,D.S,⟨i,base+i,r.2⟩::D.ps,D.hs,D.ls⟩:DS))=some D':=h;cases he:tA a D.F (base+i) with
   | none=>rw[he] at h;cases h
   | some v=>rw[he,aH] at h;cases h;exact hD
  | x x=>
   have h:bO (jE D.hs m) (aU (xN x call D.F ⟨(cG m D.ps D.S.h).2,D.S.nx⟩) fun r=>some (⟨cJ d D.F r.1,r.2,(cG m D.ps D.S.h).1,(i,m,r.2.h)::D.hs,D.ls⟩:DS)) none=some D':=h;cases hl:jE D.hs m with
   | false=>rw[hl,aR] at h;cases h
   | true=>
    rw[hl,aN] at h;cases he:xN x call D.F ⟨(cG m D.ps D.S.h).2,D.S.nx⟩ with
    | none=>rw[he] at h;cases h
    | some v=>
     rw[he,aH] at h;cases h;refine⟨fun e he=>?_,hD.2⟩;rcases Br.1 he with rfl | he
     ·exact hi
     ·exact hD.1 e he
theorem aD5{call:dR}{base K:Nat}:∀ {l:List AO} {i:Nat} {D D':DS},rG l i base call D=some D'->i+l.length<=K->(∀o∈l,o.mask<2 ^ K)->Low K D->Low K D'
 | [],i,D,D',h,_,_,hD=>by cases h;exact hD
 | o::os,i,D,D',h,hi,hm,hD=>by
  have h:aU (tB o i base call D) (fun D'=>rG os (i+1) base call D')=some D':=h;rw[Av] at hi;cases he:tB o i base call D with
  | none=>rw[he] at h;cases h
  | some D1=>
   rw[he,aH] at h;exact aD5 h au (fun o ho=>hm o (Bf _ ho)) (aPU he au (hm o (Bn ..)) hD)
theorem aD7{W:Nat->Prop}{h0:T AB}{base K m:Nat}{h':T AB}{r:List (Nat×Nat×T AB)}{l:nL}(h:cQ l.v l.v=true/\aGN W base l.q l.F/\iT l.q l.F h0=some l.v)(hl:l.i<K/\l.mask<2 ^ K)(hm:∀i,i<K->Nat.testBit m i=true):∀ {hs:List (Nat×Nat×T AB)} {h1:T AB},(∀e∈hs,∀b,b<base->¬W b->e.2.2.get b=h0.get b)->(∀b,b<base->¬W b->h1.get b=h0.get b)->gN l (hs++(K,m,h')::r) h1=true
 | [],h1,_,hh=>by
  have e1:qE l.v (iT l.q l.F h1)=true:=by rw[h.2.1.ev hh,h.2.2];exact h.1
  have e2:Nat.testBit l.mask K=false:=Nat.testBit_lt_two_pow hl.2;show gN l ((K,m,h')::r) h1=true;unfold gN;rw[e2,aR,e1,aN,hm _ hl.1,aN]
 | (i,mm,h2)::rr,h1,hs,hh=>by
  have e1:qE l.v (iT l.q l.F h1)=true:=by rw[h.2.1.ev hh,h.2.2];exact h.1
  have e2:gN l (rr++(K,m,h')::r) h2=true:=aD7 h hl hm (fun e he=>hs e (by simp [he])) (hs (i,mm,h2) (by simp));show gN l ((i,mm,h2)::(rr++(K,m,h')::r)) h1=true;unfold gN;rw[e1,e2];cases Nat.testBit l.mask i<;>cases Nat.testBit mm l.i<;>rfl
theorem aF0{W:Nat->Prop}{ops pre suf:List AO}{K:Nat}{A:bN}{S:St}{Q:Out->bN->St->Prop}{R:Fr->St->List kB->Prop}(he:ops=pre++suf)(hK:pre.length=K)(hm:(pre.all fun o=>decide (o.mask<2 ^ K))=true)
  (h:∀S1,Same S S1->S1.h=S.h->S1.nx=S.nx+ops.length->hJ fns W S.h S.nx pre 0 A.F S1 [] none R)
  (h2:∀F S' ps hs ls,R F S' ps->(∀m,(∀i,i<K->Nat.testBit m i=true)->jE hs m=true)->(∀m h' r,(∀i,i<K->Nat.testBit m i=true)->fT S.h (hs.reverse++(K,m,h')::r) ls=true)->wpd fns suf K S.nx ⟨F,S',ps,hs,ls⟩ fun D'=>fT S.h D'.hs.reverse D'.ls=true/\Q .normal ⟨D'.F,A.inr⟩ ⟨(cG (2 ^ ops.length - 1) D'.ps D'.S.h).2,D'.S.nx⟩):nD fns (.drw ops) A S Q:=by
 refine vC ?_;have⟨n,D',e1,e2,e3⟩:=mY (fns:=fns) (i:=0) (D:=⟨A.F,⟨S.h,S.nx+ops.length⟩,[],[],[]⟩) (last:=none) ⟨fun _ _ _=>rfl,En _ _,fun e he=>(by cases he),fun l hl=>(by cases hl),fun p hp=>(by cases hp)⟩ rfl (h ⟨S.h,S.nx+ops.length⟩ (Same.nx S _) rfl rfl);have low:Low K D':=aD5 e1 au (fun o ho=>by have:=Et.1 hm o ho;simpa using this) ⟨fun e he=>(by cases he),fun l hl=>(by cases hl)⟩;have⟨F,S',ps,hs,ls⟩:=D';have hh:=h2 F S' ps hs ls e2 (fun m hm=>by
  cases hs with
  | nil=>rfl
  | cons e r=>exact hm _ (low.1 e (Bn ..))) (fun m h' r hm=>qZ fun l hl=>aD7 (e3.lds l hl) (low.2 l hl) hm (fun e he=>e3.chain e (List.mem_reverse.1 he)) (fun _ _ _=>rfl))
 have:wpd fns ops 0 S.nx ⟨A.F,⟨S.h,S.nx+ops.length⟩,[],[],[]⟩ fun D'=>fT S.h D'.hs.reverse D'.ls=true/\Q .normal ⟨D'.F,A.inr⟩ ⟨(cG (2 ^ ops.length - 1) D'.ps D'.S.h).2,D'.S.nx⟩:=by
  subst he;refine aK1 ⟨n,_,e1,?_⟩;rw[Ao,hK];exact hh
 exact this
theorem mC{S S':St}{v:AV}{l:bm}(h:cH .i64 S v l)(hn:S.nx<=S'.nx)(hh:∀c,bP v=some c->S'.h.get c=S.h.get c):cH .i64 S' v l:=ofG (bH.moveB (toG h) hn hh fun _ _ h=>h)
def aGA(X:St)(P:Nat->Prop)(e:bo)(a:dI):Prop:=∃xa xw xp,e= [.int .i64 a.kind,.int .i64 a.player,.int .i64 a.info,xa,xw,xp]/\cH .i64 X xa a.next/\cH .i64 X xw a.weights/\cH .i64 X xp a.pay/\∀c,(bP xa=some c\/bP xw=some c\/bP xp=some c)->P c
theorem fP{k:IntKind}{X:St}{v:AV}{l:bm}{c:Nat}(h:cH k X v l)(hc:bP v=some c):c<X.nx:=by
 rcases h with⟨_,rfl | rfl⟩ | ⟨b,off,cap,o,cs,rfl,_,hb,_⟩
 ·cases hc
 ·cases hc
 ·cases hc;exact hb
theorem aGA.move{X X':St}{P P':Nat->Prop}{e:bo}{a:dI}(h:aGA X P e a)(hn:X.nx<=X'.nx)(hh:∀c,c<X.nx->P c->X'.h.get c=X.h.get c/\P' c):aGA X' P' e a:=by
 obtain⟨xa,xw,xp,rfl,h1,h2,h3,h4⟩:=h;refine⟨xa,xw,xp,rfl,mC h1 hn fun c hc=>(hh c (fP h1 hc) (h4 c (.inl hc))).1,mC h2 hn fun c hc=>(hh c (fP h2 hc) (h4 c (.inr (.inl hc)))).1,mC h3 hn fun c hc=>(hh c (fP h3 hc) (h4 c (.inr (.inr hc)))).1,fun c hc=>?_⟩;rcases hc with hc | hc | hc
 ·exact(hh c (fP h1 hc) (h4 c (.inl hc))).2
 ·exact(hh c (fP h2 hc) (h4 c (.inr (.inl hc)))).2
 ·exact(hh c (fP h3 hc) (h4 c (.inr (.inr hc)))).2
theorem aR0{t:Nat}{x:cP}{F:Fr}{id:Nat}{k p f xa xw xp z0 z1 z2 z3 z4 z5:AV}(hx:x.val F= .agg [k,p,f,xa,xw,xp]):tA (.cm t 6 1 [z0,z1,z2,z3,z4,z5] [(0,x)]) F id=some (.sl id 0 1 1 false,.cells [k,p,f,xa,xw,xp] false 0):=by
 show(aU (eQ (repeatL [z0,z1,z2,z3,z4,z5] 1) [(0 * 6,6,x.val F)]) fun cs=>some (AV.sl id 0 1 1 false,AB.cells cs false 0))=_;rw[hx];show(aU (aU (AV.cells (.agg [k,p,f,xa,xw,xp])) _) _)=_;rw[aS,aH];rfl
end Go.Ev.Gl
