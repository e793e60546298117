import Derived.Test.YtoojnpjgnnpllaaGl8
open Nat renaming reduceEqDiff -> rE, reduceAdd -> rA
set_option maxHeartbeats 0
set_option linter.unusedSimpArgs false
set_option linter.unusedVariables false
namespace Go.Ev.Gl
variable {fns:T dY}
theorem jF.same{S S':St}{wb plb szb:Nat}{pv nv iv:AV}{g:aS}{R Z:ba}(h:jF S wb plb szb pv nv iv g R Z)(hs:Same S S'):jF S' wb plb szb pv nv iv g R Z:=
 ⟨h.w.same hs,(hs.2 _ h.bp).trans h.gp,(hs.2 _ h.bz).trans h.gz,h.lp,h.lz,Ae h.bp hs.1,Ae h.bz hs.1⟩
def aPX(fns:Ev.T dY)(S:St)(nv iv mv:AV)(g:aS)(m:ba)(ok:Prop)(P:St->St->AV->AV->Prop):Prop:=
 cT g=0->m.length=g.bh.length->xA m g.bh.length->¬aCG m->∀ (S0:St) (wb plb szb:Nat) (pv:AV) (T:List dM) (Z:ba),Same S S0->iN g=some T->T.length=g.bh.length->bI .i64 S0 pv (T.map (·.1))->jF S0 wb plb szb pv nv iv g (lO g) Z->
  fZ fns (.fn 116 [] []) [.ptr wb 0,mv] S0 fun r S''=>Same S0 S''/\∃x y t,r= .tup [.agg [x,y],.bool t]/\(t=true↔ok)/\(t=true->P S0 S'' x y)
noncomputable def mS(g:aS)(m:ba)(ok:Prop):Int:=if cT g≠0 then cT g else jE g.bh.length m ok
def aJj(fns:Ev.T dY)(S:St)(nv iv mv:AV)(g:aS)(m:ba)(ok:Prop)(P:St->St->AV->AV->Prop):Prop:=
 cT g=0->m.length=g.bh.length->xA m g.bh.length->¬aCG m->∀S0,Same S S0->fZ fns (.fn 72 [] []) [.agg [.int .i64 g.bo,nv,iv],mv] S0 fun r S''=>Same S0 S''/\∃a b t,r= .tup [a,b,.bool t]/\(t=true↔ok)/\(t=true->P S0 S'' a b)
theorem aCm{S:St}{nv iv mv:AV}{g:aS}{m:ba}{ok:Prop}{P:St->St->AV->AV->Prop}(H:Has fns)(hn:aE 6 bX S nv g.bh)(hi:aE 2 bP S iv g.bj)(hm:bI .i64 S mv m)(hln:g.bh.length<=100000)(himg:aJj fns S nv iv mv g m ok P):
  fZ fns (.fn 29 [] []) [.agg [.int .i64 g.bo,nv,iv],mv] S fun r S'=>r= .int .i64 (mS g m ok)/\Same S S':=by
 refine cF H.f29 (by simp) ?_;refine ae ?_;refine bO ?_;refine cI (by refine ae ?_;exact aY _) ?_;intro S1 s1 n1 c1;refine ae ?_;refine fC (dm (eJ c1) ?_);refine bD (ae ?_);refine aW (aEe H (aE.same (E:=bX) bL hn s1) (aE.same (E:=bP) bK hi s1) hln) ?_;rintro _ X ⟨rfl,hX⟩;try refine ae ?_
 refine bO (ae ?_);have sX:=s1.trans hX;have cX:X.h.get S.nx=some (.cells [.int .i64 g.bo,nv,iv] false 0):=by rw[hX.2 _ ar];exact c1
 unfold mS;by_cases h0:cT g=0;rotate_left
 ·rw[if_pos h0];refine aN (by simp only[↓sU,sD,rE,↓reduceIte,rA,Ac (show cT g≠0 from h0)]) ?_;refine bO (ae ?_);refine aP (ae ?_);exact sX
 rw[if_neg (fun h=>h h0)];refine aM (by simp only[↓sU,sD,rE,↓reduceIte,rA,Aa (show ¬cT g≠0 from fun h=>h h0)]) (aI ?_);try refine ae ?_
 refine bO (dm (eJ cX) ?_);refine bD (ae ?_);refine aW (aCx (ok:=ok) H (aE.same (E:=bX) bL hn sX) (hm.same sX) hln fun h1 h2 h3 S' hS'=>aW (himg h0 h1 h2 h3 S' (sX.trans hS')) ?_) ?_
 ·rintro _ Z ⟨hZ,a,b,t,rfl,ht,_⟩;exact⟨hZ,a,b,t,rfl,ht⟩
 rintro _ Y ⟨rfl,hY⟩;try refine ae ?_
 refine aP (ae ?_);exact sX.trans hY
theorem aFs{n:Nat}{m:ba}{ok:Prop}(h:jE n m ok=0):m.length=n/\xA m n/\¬aCG m/\ok:=by
 unfold jE at h;split at h
 ·exact absurd h ay
 ·rename_i h1;split at h
  ·exact absurd h ay
  ·rename_i h2;split at h
   ·exact absurd h ay
   ·rename_i h3;split at h
    ·rename_i h4;exact⟨Dd.1 h1,Classical.not_not.1 h2,h3,h4⟩
    ·exact absurd h ay
abbrev aIH(P:St->St->AV->AV->Prop):Prop:=∀ {S0 S1 S2:St} {x y:AV},P S0 S1 x y->S1.nx<=S2.nx->(∀c,S0.nx<=c->c<S1.nx->S2.h.get c=S1.h.get c)->P S0 S2 x y
theorem aSy{h:Ev.T AB}{b:Nat}{x y:AV}{o:Bool}{s:Nat}(hb:h.get b=some (.cells [x,y] o s)):dT (.ptr b (0+0)) false 1 h=some x:=ldc hb rfl
theorem aSK{h:Ev.T AB}{b:Nat}{x y:AV}{o:Bool}{s:Nat}(hb:h.get b=some (.cells [x,y] o s)):dT (.ptr b (0+1)) false 1 h=some y:=ldc hb rfl
theorem aFn{g:aS}{m:ba}{ok:Prop}(h:mS g m ok=0):cT g=0/\jE g.bh.length m ok=0:=by
 have h0:cT g=0:=Dd.1 fun h'=>by unfold mS at h;rw[if_pos h'] at h;exact h' h
 unfold mS at h;rw[if_neg (fun h'=>h' h0)] at h;exact⟨h0,h⟩
theorem aI5{S:St}{nv iv mv:AV}{g:aS}{m:ba}{ok:Prop}{P:St->St->AV->AV->Prop}(H:Has fns)(hP:aIH P)(hn:aE 6 bX S nv g.bh)(hi:aE 2 bP S iv g.bj)(hm:bI .i64 S mv m)(hln:g.bh.length<=100000)(himg:aPX fns S nv iv mv g m ok P):
  fZ fns (.fn 21 [] []) [.agg [.int .i64 g.bo,nv,iv],mv] S fun r S'=>Same S S'/\∃x y,r= .tup [x,.int .i64 (mS g m ok)]/\(mS g m ok≠0->x= .bw)/\(mS g m ok=0->∃S0,S.nx<=S0.nx/\P S0 S' x y):=by
 refine cF H.f21 (by simp) ?_;refine ae ?_;refine bO ?_;refine cI (by refine ae ?_;exact aY _) ?_;intro S1 s1 n1 c1;refine ae ?_;refine bO (dm (eJ c1) ?_);refine bD (ae ?_);refine aW (aBX H (aE.same (E:=bX) bL hn s1) (aE.same (E:=bP) bK hi s1) hln) ?_;rintro _ X ⟨hX,p,rfl,hok⟩;have sX:=s1.trans hX;refine dn @rN @sA ?_;refine fC (ae ?_);by_cases h0:cT g=0;rotate_left
 ·have hE:mS g m ok=cT g:=by unfold mS;rw[if_pos h0]
  rw[hE];refine aN (by simp only[↓sU,sD,rE,↓reduceIte,rA,Ac (show cT g≠0 from h0)]) ?_;refine bO (ae ?_);refine aP (ae ?_);exact⟨sX,.bw,.bw,rfl,fun _=>rfl,fun h=>absurd h h0⟩
 have hC:mS g m ok=jE g.bh.length m ok:=by unfold mS;rw[if_neg (fun h=>h h0)]
 rw[hC];refine aM (by simp only[↓sU,sD,rE,↓reduceIte,rA,Aa (show ¬cT g≠0 from fun h=>h h0)]) (aI ?_);try refine ae ?_
 obtain⟨wb,plb,szb,pv,T,Z,rfl,_,hT,hTl,hpv,hB⟩:=hok h0;refine bO (am ?_);refine bD (am ?_);refine aW (zP (P:=P) (ok:=ok) H hP hB.w (aE.same (E:=bX) bL hn sX) (hm.same sX) hln fun h1 h2 h3 S' hS'=>himg h0 h1 h2 h3 S' wb plb szb pv T Z (sX.trans hS') hT hTl (hpv.same hS') (hB.same hS')) ?_;rintro _ Y ⟨hY,x,y,rfl,hr0,hr1⟩;have sY:=sX.trans hY;refine dy @rN @sA ?_;refine cA ?_;intro Y1 y1 k1 e1;refine cQ (b:=Y.nx) (ap) (by refine am ?_;exact aY _) e1 rfl rfl ?_;intro Y2 y2 k2 e2;refine am ?_;have sY2:Same Y Y2:=y2.same y1 (Ag _);refine bO (dz @aC @aB (aSy e2) ?_);refine aP (am ?_);refine⟨sY.trans sY2,x,y,rfl,fun h=>(hr1 h).1,fun h=>?_⟩;have⟨S0,a,b⟩:=hr0 h;exact⟨S0,Al sX.1 a,hP b sY2.1 fun c _ hc=>sY2.2 c hc⟩
theorem aHq{S:St}{nv iv mv:AV}{g:aS}{m:ba}{ok:Prop}{P:St->St->AV->AV->Prop}(H:Has fns)(hn:aE 6 bX S nv g.bh)(hi:aE 2 bP S iv g.bj)(hm:bI .i64 S mv m)(hln:g.bh.length<=100000)(himg:aJj fns S nv iv mv g m ok P):
  fZ fns (.fn 25 [] []) [.agg [.int .i64 g.bo,nv,iv],mv] S fun r S'=>Same S S'/\∃x y,r= .tup [x,.int .i64 (mS g m ok)]/\(mS g m ok≠0->x= .bw)/\(mS g m ok=0->∃S0,S.nx<=S0.nx/\P S0 S' x y):=by
 refine cF H.f25 (by simp) ?_;refine ae ?_;refine bO ?_;refine cI (by refine ae ?_;exact aY _) ?_;intro S1 s1 n1 c1;refine ae ?_;refine fC (dm (eJ c1) ?_);refine bD (ae ?_);refine aW (aCm (P:=P) (ok:=ok) H (aE.same (E:=bX) bL hn s1) (aE.same (E:=bP) bK hi s1) (hm.same s1) hln fun h0 h1 h2 h3 S' hS'=>himg h0 h1 h2 h3 S' (s1.trans hS')) ?_;rintro _ X ⟨rfl,hX⟩;have sX:=s1.trans hX;have cX:X.h.get S.nx=some (.cells [.int .i64 g.bo,nv,iv] false 0):=by rw[hX.2 _ ar];exact c1
 try refine ae ?_
 refine bO (ae ?_);by_cases ha0:mS g m ok=0;rotate_left
 ·refine aN (by simp only[↓sU,sD,rE,↓reduceIte,rA,Ac (show mS g m ok≠0 from ha0)]) ?_;refine bO (ae ?_);refine aP (ae ?_);exact⟨sX,.bw,.bw,rfl,fun _=>rfl,fun h=>absurd h ha0⟩
 have⟨h0,hm0⟩:=aFn ha0;have⟨h1,h2,h3,hk⟩:=aFs hm0;rw[ha0];refine aM (by simp only[↓sU,sD,rE,↓reduceIte,rA,ha0];rfl) (aI ?_);try refine ae ?_
 refine bO (dm (eJ cX) ?_);refine bD (ae ?_);refine aW (himg h0 h1 h2 h3 X sX) ?_;rintro _ Y ⟨hY,x,y,t,rfl,ht,htP⟩;have ex2:kC (.tup [x,y,.bool t]) 2=some (.bool t):=rfl;refine dp @rN @sA @ex2 ?_;refine bO (ae ?_);refine aP (ae ?_);exact⟨sX.trans hY,x,y,rfl,fun h=>absurd rfl h,X,sX.1,htP (ht.2 hk)⟩
theorem aGt{S:St}{nv iv mv:AV}{g:aS}{m:ba}{ok:Prop}{P:St->St->AV->AV->Prop}(H:Has fns)(hP:aIH P)(hn:aE 6 bX S nv g.bh)(hi:aE 2 bP S iv g.bj)(hm:bI .i64 S mv m)(hln:g.bh.length<=100000)(himg:aPX fns S nv iv mv g m ok P):
  fZ fns (.fn 22 [] []) [.agg [.int .i64 g.bo,nv,iv],mv] S fun r S'=>Same S S'/\∃x y,r= .tup [y,.int .i64 (mS g m ok)]/\(mS g m ok≠0->y= .bw)/\(mS g m ok=0->∃S0,S.nx<=S0.nx/\P S0 S' x y):=by
 refine cF H.f22 (by simp) ?_;refine ae ?_;refine bO ?_;refine cI (by refine ae ?_;exact aY _) ?_;intro S1 s1 n1 c1;refine ae ?_;refine bO (dm (eJ c1) ?_);refine bD (ae ?_);refine aW (aBX H (aE.same (E:=bX) bL hn s1) (aE.same (E:=bP) bK hi s1) hln) ?_;rintro _ X ⟨hX,p,rfl,hok⟩;have sX:=s1.trans hX;refine dn @rN @sA ?_;refine fC (ae ?_);by_cases h0:cT g=0;rotate_left
 ·have hE:mS g m ok=cT g:=by unfold mS;rw[if_pos h0]
  rw[hE];refine aN (by simp only[↓sU,sD,rE,↓reduceIte,rA,Ac (show cT g≠0 from h0)]) ?_;refine bO (ae ?_);refine aP (ae ?_);exact⟨sX,.bw,.bw,rfl,fun _=>rfl,fun h=>absurd h h0⟩
 have hC:mS g m ok=jE g.bh.length m ok:=by unfold mS;rw[if_neg (fun h=>h h0)]
 rw[hC];refine aM (by simp only[↓sU,sD,rE,↓reduceIte,rA,Aa (show ¬cT g≠0 from fun h=>h h0)]) (aI ?_);try refine ae ?_
 obtain⟨wb,plb,szb,pv,T,Z,rfl,_,hT,hTl,hpv,hB⟩:=hok h0;refine bO (am ?_);refine bD (am ?_);refine aW (zP (P:=P) (ok:=ok) H hP hB.w (aE.same (E:=bX) bL hn sX) (hm.same sX) hln fun h1 h2 h3 S' hS'=>himg h0 h1 h2 h3 S' wb plb szb pv T Z (sX.trans hS') hT hTl (hpv.same hS') (hB.same hS')) ?_;rintro _ Y ⟨hY,x,y,rfl,hr0,hr1⟩;have sY:=sX.trans hY;refine dy @rN @sA ?_;refine cA ?_;intro Y1 y1 k1 e1;refine cQ (b:=Y.nx) (ap) (by refine am ?_;exact aY _) e1 rfl rfl ?_;intro Y2 y2 k2 e2;refine am ?_;have sY2:Same Y Y2:=y2.same y1 (Ag _);refine bO (dz @aC @aB (aSK e2) ?_);refine aP (am ?_);refine⟨sY.trans sY2,x,y,rfl,fun h=>(hr1 h).2,fun h=>?_⟩;have⟨S0,a,b⟩:=hr0 h;exact⟨S0,Al sX.1 a,hP b sY2.1 fun c _ hc=>sY2.2 c hc⟩
theorem aES{S:St}{nv iv mv:AV}{g:aS}{m:ba}{ok:Prop}{P:St->St->AV->AV->Prop}(H:Has fns)(hn:aE 6 bX S nv g.bh)(hi:aE 2 bP S iv g.bj)(hm:bI .i64 S mv m)(hln:g.bh.length<=100000)(himg:aJj fns S nv iv mv g m ok P):
  fZ fns (.fn 26 [] []) [.agg [.int .i64 g.bo,nv,iv],mv] S fun r S'=>Same S S'/\∃x y,r= .tup [y,.int .i64 (mS g m ok)]/\(mS g m ok≠0->y= .bw)/\(mS g m ok=0->∃S0,S.nx<=S0.nx/\P S0 S' x y):=by
 refine cF H.f26 (by simp) ?_;refine ae ?_;refine bO ?_;refine cI (by refine ae ?_;exact aY _) ?_;intro S1 s1 n1 c1;refine ae ?_;refine fC (dm (eJ c1) ?_);refine bD (ae ?_);refine aW (aCm (P:=P) (ok:=ok) H (aE.same (E:=bX) bL hn s1) (aE.same (E:=bP) bK hi s1) (hm.same s1) hln fun h0 h1 h2 h3 S' hS'=>himg h0 h1 h2 h3 S' (s1.trans hS')) ?_;rintro _ X ⟨rfl,hX⟩;have sX:=s1.trans hX;have cX:X.h.get S.nx=some (.cells [.int .i64 g.bo,nv,iv] false 0):=by rw[hX.2 _ ar];exact c1
 try refine ae ?_
 refine bO (ae ?_);by_cases ha0:mS g m ok=0;rotate_left
 ·refine aN (by simp only[↓sU,sD,rE,↓reduceIte,rA,Ac (show mS g m ok≠0 from ha0)]) ?_;refine bO (ae ?_);refine aP (ae ?_);exact⟨sX,.bw,.bw,rfl,fun _=>rfl,fun h=>absurd h ha0⟩
 have⟨h0,hm0⟩:=aFn ha0;have⟨h1,h2,h3,hk⟩:=aFs hm0;rw[ha0];refine aM (by simp only[↓sU,sD,rE,↓reduceIte,rA,ha0];rfl) (aI ?_);try refine ae ?_
 refine bO (dm (eJ cX) ?_);refine bD (ae ?_);refine aW (himg h0 h1 h2 h3 X sX) ?_;rintro _ Y ⟨hY,x,y,t,rfl,ht,htP⟩;have ex2:kC (.tup [x,y,.bool t]) 2=some (.bool t):=rfl;refine dp @rN @sA @ex2 ?_;refine bO (ae ?_);refine aP (ae ?_);exact⟨sX.trans hY,x,y,rfl,fun h=>absurd rfl h,X,sX.1,htP (ht.2 hk)⟩
def b8(g:aS)(i:Nat):dP:=g.bh.getD i ⟨0,0,0,[],[],[]⟩
def fG(m:ba)(i:Nat):Nat:=(m.getD i 0).toNat
def jN(g:aS)(m:ba)(i k:Nat):Int:=mO (b8 g (fG m i)).next 0 (m.getD ((b8 g i).next.getD k 0).toNat 0)
structure iR(g:aS)(m:ba):Prop where
 root:m.getD 0 0=0
 like:∀i,i<g.bh.length->(b8 g i).kind=(b8 g (fG m i)).kind/\(b8 g i).next.length=(b8 g (fG m i)).next.length/\(b8 g i).pay=(b8 g (fG m i)).pay/\(b8 g i).player=(b8 g (fG m i)).player
 kid:∀i k,i<g.bh.length->k<(b8 g i).next.length->0<=jN g m i k
 weigh:∀i k,i<g.bh.length->k<(b8 g i).next.length->(b8 g i).kind=1->(b8 g i).weights.getD k 0=(b8 g (fG m i)).weights.getD (jN g m i k).toNat 0
 info:∀i j,i<g.bh.length->j<g.bh.length->(b8 g i).kind=2->(b8 g j).kind=2->(b8 g i).info=(b8 g j).info->(b8 g (fG m i)).info=(b8 g (fG m j)).info/\∀k,k<(b8 g i).next.length->jN g m i k=jN g m j k
 inj:∀i j,i<g.bh.length->j<g.bh.length->(b8 g i).kind=2->(b8 g j).kind=2->(b8 g (fG m i)).info=(b8 g (fG m j)).info->(b8 g i).info=(b8 g j).info
def fU(g:aS)(s:Nat):Nat:=mT g.bh 0 s - 1
def de(g:aS)(m:ba):ba:=(List.range g.bj.length).map fun s=>(b8 g (fG m (fU g s))).info
def df(g:aS)(m:ba):a9:=(List.range g.bj.length).map fun s=>(List.range (b8 g (fU g s)).next.length).map fun k=>jN g m (fU g s) k
theorem aI7{g:aS}{i:Nat}{x:dP}(h:g.bh[i]? =some x):b8 g i=x:=by unfold b8;rw[Ad,h];rfl
theorem gI{g:aS}{i:Nat}(h:i<g.bh.length):g.bh[i]? =some (b8 g i):=by unfold b8;rw[Ad,Ab h];rfl
theorem jC(g:aS)(i:Nat):eB g i=(b8 g i).next:=by
 unfold eB b8;rw[Ad];cases g.bh[i]? <;>rfl
theorem aFc{i:Nat}:∀ {l:List dP} {s:Nat},mT l s i≠0->∃j x,l[j]? =some x/\mT l s i=s+j+1/\x.kind=2/\x.info=(i:Int)
 | [],s,h=>absurd rfl h
 | x::l,s,h=>by
  simp only[mT] at h ⊢;by_cases hx:x.kind=2/\x.info=(i:Int)
  ·rw[if_pos hx];exact⟨0,x,rfl,rfl,hx.1,hx.2⟩
  ·rw[if_neg hx] at h ⊢;have⟨j,y,h1,h2,h3,h4⟩:=aFc h;exact⟨j+1,y,by rw[Eb];exact h1,by rw[h2];omega,h3,h4⟩
theorem aML{ps:Int}{ni:Nat}{x:dP}(h:iG ps ni x=0)(hp:ps<=4):x.pay.length<=4:=by
 unfold iG at h;split at h
 ·split at h
  ·cases h
  ·rename_i hb;unfold nR at hb;omega
 ·split at h
  ·split at h
   ·cases h
   ·rename_i hb;unfold wV at hb;omega
  ·split at h
   ·split at h
    ·cases h
    ·rename_i hb;unfold oF at hb;omega
   ·cases h
structure dE(g:aS):Prop where
 n1:0<g.bh.length
 n2:g.bh.length<=2000
 ni:g.bj.length<=200
 nxt:∀i,i<g.bh.length->(b8 g i).next.length<=1000
 pay:∀i,i<g.bh.length->(b8 g i).pay.length<=4
 wts:∀i,i<g.bh.length->(b8 g i).kind=1->(b8 g i).weights.length=(b8 g i).next.length
 inf:∀i,i<g.bh.length->(b8 g i).kind=2->0<=(b8 g i).info/\(b8 g i).info<g.bj.length/\(cd g (b8 g i).info).bt=(((b8 g i).next.length:Nat):Int)
 fst:∀s,s<g.bj.length->fU g s<g.bh.length/\(b8 g (fU g s)).kind=2/\(b8 g (fU g s)).info=(s:Int)
 walk:∃T,iN g=some T/\T.length=g.bh.length/\WF (eB g) 0 (-1) T
theorem gF{g:aS}(h:cT g=0):dE g:=by
 unfold cT at h;split at h
 ·cases h
 rename_i hb;split at h
 ·rename_i h1;exact absurd h h1
 rename_i hN;have hN:=Dd.1 hN;cases hW:iN g with
 | none=>rw[hW] at h;cases h
 | some T=>
  rw[hW] at h;simp only at h;split at h
  ·cases h
  rename_i hT;split at h
  ·cases h
  unfold aAY at h;split at h
  ·cases h
  rename_i hmis;split at h
  ·cases h
  rename_i hfst;unfold mN at hb;have hmem:∀i,i<g.bh.length->b8 g i∈g.bh:=fun i hi=>Ar (gI hi);refine⟨ar,ar,ar,fun i hi=>aBE (iE hN _ (hmem i hi)),fun i hi=>aML (iE hN _ (hmem i hi)) ar,fun i hi hk=>?_,fun i hi hk=>?_,fun s hs=>?_,T,hW,ar,?_⟩
  ·have:=iE hN _ (hmem i hi);unfold iG at this;rw[if_pos hk] at this;split at this
   ·cases this
   ·rename_i hc;unfold nR at hc;omega
  ·have⟨a,b⟩:=aBB (iE hN _ (hmem i hi)) hk;refine⟨a,b,Decidable.byContradiction fun hne=>hmis ⟨_,hmem i hi,hk,fun hh=>hne hh.2⟩⟩
  ·have hne:mT g.bh 0 s≠0:=fun e=>hfst (by
    unfold gN;exact Dg.2 ⟨s,Da.2 hs,by rw[e];rfl⟩)
   have⟨j,x,h1,h2,h3,h4⟩:=aFc hne;have e:fU g s=j:=by unfold fU;omega
   rw[e,aI7 h1];exact⟨(Ai.1 h1).1,h3,h4⟩
  ·unfold iN at hW;exact rJ hW
def aCH(g:aS)(m:ba)(i:Nat):Prop:=(b8 g i).kind=(b8 g (fG m i)).kind/\(b8 g i).next.length=(b8 g (fG m i)).next.length/\(b8 g i).pay=(b8 g (fG m i)).pay/\(b8 g i).player=(b8 g (fG m i)).player
def aAO(g:aS)(m:ba)(i k:Nat):Prop:=(b8 g i).kind=1->(b8 g i).weights.getD k 0=(b8 g (fG m i)).weights.getD (jN g m i k).toNat 0
structure Seen(g:aS)(m:ba)(V:Nat->Prop)(W:Nat->Nat->Prop)(I:ba)(A:a9):Prop where
 li:I.length=g.bj.length
 la:A.length=g.bj.length
 ls:∀s,s<g.bj.length->(((A.getD s []).length:Nat):Int)=(cd g (s:Int)).bt
 iv:∀j,j<g.bh.length->V j->(b8 g j).kind=2->I.getD (b8 g j).info.toNat 0=(b8 g (fG m j)).info
 iw:∀s,s<g.bj.length->0<=I.getD s 0->∃j,j<g.bh.length/\V j/\(b8 g j).kind=2/\(b8 g j).info=(s:Int)
 lk:∀j,j<g.bh.length->V j->aCH g m j
 kd:∀j k,j<g.bh.length->k<(b8 g j).next.length->W j k->0<=jN g m j k/\aAO g m j k/\((b8 g j).kind=2->(A.getD (b8 g j).info.toNat []).getD k 0=jN g m j k)
structure aCJ(g:aS)(m:ba):Prop where
 len:m.length=g.bh.length
 inn:xA m g.bh.length
section
variable {g:aS}{m:ba}{V V':Nat->Prop}{W W':Nat->Nat->Prop}{I F:ba}{A:a9}
theorem aCJ.at(h:aCJ g m){i:Nat}(hi:i<g.bh.length):m.getD i 0=((fG m i:Nat):Int)/\fG m i<g.bh.length:=by
 have hl:i<m.length:=by rw[h.len];exact hi
 have hmem:m.getD i 0∈m:=by rw[Ad,Ab hl];exact Bo _
 have:=h.inn _ hmem;unfold fG;omega
theorem Seen.congr(h:Seen g m V W I A)(hV:∀j,j<g.bh.length->(V j↔V' j))(hW:∀j k,j<g.bh.length->k<(b8 g j).next.length->W' j k->W j k):Seen g m V' W' I A:=
 ⟨h.li,h.la,h.ls,fun j hj hv=>h.iv j hj ((hV j hj).2 hv),fun s hs h0=>by have⟨j,a,b,c⟩:=h.iw s hs h0;exact⟨j,a,(hV j a).1 b,c⟩,fun j hj hv=>h.lk j hj ((hV j hj).2 hv),fun j k hj hk hw=>h.kd j k hj hk (hW j k hj hk hw)⟩
theorem nD{l:ba}{n j:Nat}{x:Int}(hn:n<l.length):(l.set n x).getD j 0=if n=j then x else l.getD j 0:=by
 rw[Ad,Cu];split
 ·rfl
 ·rw[Ad]
theorem uP{l:a9}{n j:Nat}{x:ba}(hn:n<l.length):(l.set n x).getD j []=if n=j then x else l.getD j []:=by
 rw[Ad,Cu];split
 ·rfl
 ·rw[Ad]
theorem qY(G:dE g)(M:aCJ g m){i:Nat}(hi:i<g.bh.length)(hl:aCH g m i)(hk:(b8 g i).kind=2):0<=(b8 g (fG m i)).info/\(b8 g (fG m i)).info<g.bj.length:=by
 have:=G.inf (fG m i) (M.at hi).2 (by rw[<-hl.1];exact hk);exact⟨this.1,this.2.1⟩
theorem Seen.node(h:Seen g m V W I A){i:Nat}(hl:aCH g m i)(hk:(b8 g i).kind≠2):Seen g m (fun j=>V j\/j=i) W I A:=
 ⟨h.li,h.la,h.ls,fun j hj hv hk'=>by
  rcases hv with hv | rfl
  ·exact h.iv j hj hv hk'
  ·exact absurd hk' hk,fun s hs h0=>by have⟨j,a,b,c⟩:=h.iw s hs h0;exact⟨j,a,.inl b,c⟩,fun j hj hv=>by
  rcases hv with hv | rfl
  ·exact h.lk j hj hv
  ·exact hl,h.kd⟩
theorem Seen.nodeM(G:dE g)(M:aCJ g m)(h:Seen g m V W I A){i:Nat}(hi:i<g.bh.length)(hl:aCH g m i)(hk:(b8 g i).kind=2)(hI:0<=I.getD (b8 g i).info.toNat 0->I.getD (b8 g i).info.toNat 0=(b8 g (fG m i)).info):Seen g m (fun j=>V j\/j=i) W (I.set (b8 g i).info.toNat (b8 g (fG m i)).info) A:=by
 have⟨a1,a2,a3⟩:=G.inf i hi hk;have hlt:(b8 g i).info.toNat<I.length:=by rw[h.li];omega
 refine⟨by rw[Aq];exact h.li,h.la,h.ls,fun j hj hv hk'=>?_,fun s hs h0=>?_,fun j hj hv=>?_,h.kd⟩
 ·rw[nD hlt];have⟨b1,b2,b3⟩:=G.inf j hj hk';rcases hv with hv | rfl
  ·have:=h.iv j hj hv hk';split
   ·rename_i e;have e':(b8 g j).info=(b8 g i).info:=by omega
    rw[e'] at this;have:=hI (by rw[this];exact(qY G M hj (h.lk j hj hv) hk').1);omega
   ·exact this
  ·rw[if_pos rfl]
 ·rw[nD hlt] at h0;split at h0
  ·rename_i e;exact⟨i,hi,.inr rfl,hk,ar⟩
  ·have⟨j,a,b,c⟩:=h.iw s hs h0;exact⟨j,a,.inl b,c⟩
 ·rcases hv with hv | rfl
  ·exact h.lk j hj hv
  ·exact hl
theorem Seen.kid(h:Seen g m V W I A){i k:Nat}(h0:0<=jN g m i k)(hw:aAO g m i k)(hk:(b8 g i).kind≠2):Seen g m V (fun j k'=>W j k'\/(j=i/\k'=k)) I A:=
 ⟨h.li,h.la,h.ls,h.iv,h.iw,h.lk,fun j k' hj hk' hv=>by
  rcases hv with hv | ⟨rfl,rfl⟩
  ·exact h.kd j k' hj hk' hv
  ·exact⟨h0,hw,fun e=>absurd e hk⟩⟩
theorem Seen.kidM(G:dE g)(h:Seen g m V W I A){i k:Nat}(hi:i<g.bh.length)(hkl:k<(b8 g i).next.length)(h0:0<=jN g m i k)(hw:aAO g m i k)(hk:(b8 g i).kind=2)
  (hA:∀j,j<g.bh.length->W j k->(b8 g j).kind=2->(b8 g j).info=(b8 g i).info->(A.getD (b8 g i).info.toNat []).getD k 0=jN g m i k):
  Seen g m V (fun j k'=>W j k'\/(j=i/\k'=k)) I (A.set (b8 g i).info.toNat ((A.getD (b8 g i).info.toNat []).set k (jN g m i k))):=by
 have⟨a1,a2,a3⟩:=G.inf i hi hk;have hlt:(b8 g i).info.toNat<A.length:=by rw[h.la];omega
 have hls:=h.ls (b8 g i).info.toNat ar;rw[show(((b8 g i).info.toNat:Nat):Int)=(b8 g i).info by omega,a3] at hls;refine⟨h.li,by rw[Aq];exact h.la,fun s hs=>?_,h.iv,h.iw,h.lk,fun j k' hj hk' hv=>?_⟩
 ·rw[uP hlt];split
  ·rename_i e;rw[Aq,e];exact h.ls s hs
  ·exact h.ls s hs
 ·have key:(b8 g j).kind=2->((A.set (b8 g i).info.toNat ((A.getD (b8 g i).info.toNat []).set k (jN g m i k))).getD (b8 g j).info.toNat []).getD k' 0=if(b8 g j).info=(b8 g i).info/\k=k' then jN g m i k else(A.getD (b8 g j).info.toNat []).getD k' 0:=fun hkj=>by
   have⟨b1,b2,b3⟩:=G.inf j hj hkj;rw[uP hlt];by_cases e:(b8 g j).info=(b8 g i).info
   ·rw[if_pos (by rw[e]),nD ar,e];by_cases e2:k=k'
    ·rw[if_pos e2,if_pos ⟨rfl,e2⟩]
    ·rw[if_neg e2,if_neg (fun h=>e2 h.2)]
   ·rw[if_neg ar,if_neg (fun h=>e h.1)]
  rcases hv with hv | ⟨rfl,rfl⟩
  ·have⟨c1,c2,c3⟩:=h.kd j k' hj hk' hv;refine⟨c1,c2,fun hkj=>?_⟩;rw[key hkj];split
   ·rename_i e;obtain⟨e1,rfl⟩:=e;have:=c3 hkj;rw[<-hA j hj hv hkj e1,<-e1];exact this
   ·exact c3 hkj
  ·exact⟨h0,hw,fun hkj=>by rw[key hkj,if_pos ⟨rfl,rfl⟩]⟩
theorem aJG{i:Nat}(hi:i<g.bh.length)(h:¬aCH g m i):¬iR g m:=fun a=>h (a.like i hi)
theorem aMS{i k:Nat}(hi:i<g.bh.length)(hk:k<(b8 g i).next.length)(h:¬0<=jN g m i k):¬iR g m:=fun a=>h (a.kid i k hi hk)
theorem aG1{i k:Nat}(hi:i<g.bh.length)(hk:k<(b8 g i).next.length)(h:¬aAO g m i k):¬iR g m:=fun a=>h (a.weigh i k hi hk)
theorem Seen.no_info(h:Seen g m V W I A)(G:dE g){i:Nat}(hi:i<g.bh.length)(hk:(b8 g i).kind=2)(h0:0<=I.getD (b8 g i).info.toNat 0)(h1:I.getD (b8 g i).info.toNat 0≠(b8 g (fG m i)).info):¬iR g m:=fun a=>by
 have⟨a1,a2,a3⟩:=G.inf i hi hk;have⟨j,b1,b2,b3,b4⟩:=h.iw _ ar h0;have e:(b8 g j).info=(b8 g i).info:=by omega
 have:=h.iv j b1 b2 b3;rw[e] at this;exact h1 (this.trans (a.info j i b1 hi b3 hk e).1)
theorem Seen.no_act(h:Seen g m V W I A)(G:dE g){i j k:Nat}(hi:i<g.bh.length)(hj:j<g.bh.length)(hk:(b8 g i).kind=2)(hkj:(b8 g j).kind=2)(e:(b8 g j).info=(b8 g i).info)(hkl:k<(b8 g i).next.length)(hW:W j k)(h1:(A.getD (b8 g i).info.toNat []).getD k 0≠jN g m i k):¬iR g m:=fun a=>by
 have a3:=(G.inf i hi hk).2.2;have b3:=(G.inf j hj hkj).2.2;rw[e,a3] at b3;have:=(h.kd j k hj ar hW).2.2 hkj;rw[e] at this;exact h1 (this.trans ((a.info j i hj hi hkj hk e).2 k ar))
theorem Seen.no_inj(h:Seen g m (fun _=>True) W I A)(G:dE g){a b:Nat}(ha:a<g.bj.length)(hb:b<g.bj.length)(hab:b≠a)(he:I.getD a 0=I.getD b 0):¬iR g m:=fun u=>by
 have⟨f1,f2,f3⟩:=G.fst a ha;have⟨e1,e2,e3⟩:=G.fst b hb;have ia:=h.iv _ f1 trivial f2;have ib:=h.iv _ e1 trivial e2;rw[f3,Az] at ia;rw[e3,Az] at ib;have:=u.inj _ _ f1 e1 f2 e2 (by rw[<-ia,<-ib,he]);omega
theorem Seen.inj(h:Seen g m (fun _=>True) W I A)(G:dE g)(hd:∀a b,b<a->a<g.bj.length->I.getD a 0≠I.getD b 0):∀i j,i<g.bh.length->j<g.bh.length->(b8 g i).kind=2->(b8 g j).kind=2->(b8 g (fG m i)).info=(b8 g (fG m j)).info->(b8 g i).info=(b8 g j).info:=fun i j hi hj hki hkj e=>by
 have⟨a1,a2,_⟩:=G.inf i hi hki;have⟨b1,b2,_⟩:=G.inf j hj hkj;have ia:=h.iv i hi trivial hki;have ib:=h.iv j hj trivial hkj;rcases Dl (b8 g i).info.toNat (b8 g j).info.toNat with h1 | h1 | h1
 ·exact absurd (by rw[ia,ib,e]) (hd _ _ h1 ar)
 ·omega
 ·exact absurd (by rw[ia,ib,e]) (hd _ _ h1 ar)
theorem Seen.auto(h:Seen g m (fun _=>True) (fun _ _=>True) I A)(G:dE g)(root:m.getD 0 0=0)(inj:∀i j,i<g.bh.length->j<g.bh.length->(b8 g i).kind=2->(b8 g j).kind=2->(b8 g (fG m i)).info=(b8 g (fG m j)).info->(b8 g i).info=(b8 g j).info):iR g m:=by
 refine⟨root,fun i hi=>h.lk i hi trivial,fun i k hi hk=>(h.kd i k hi hk trivial).1,fun i k hi hk=>(h.kd i k hi hk trivial).2.1,fun i j hi hj hki hkj e=>⟨?_,fun k hk=>?_⟩,inj⟩
 ·rw[<-h.iv i hi trivial hki,<-h.iv j hj trivial hkj,e]
 ·have a3:=(G.inf i hi hki).2.2;have b3:=(G.inf j hj hkj).2.2;rw[<-e,a3] at b3;rw[<- (h.kd i k hi hk trivial).2.2 hki,<- (h.kd j k hj ar trivial).2.2 hkj,e]
theorem Seen.de(h:Seen g m (fun _=>True) W I A)(G:dE g):I=de g m:=by
 refine aJZ (by rw[h.li];simp [Gl.de]) fun s hs=>?_;have hs:s<g.bj.length:=by simpa [Gl.de] using hs
 have⟨f1,f2,f3⟩:=G.fst s hs;have:=h.iv _ f1 trivial f2;rw[f3] at this;rw[show((s:Int)).toNat=s by omega] at this;rw[this];unfold Gl.de;rw[Ad,Am,Bf hs];rfl
theorem Seen.df(h:Seen g m V (fun _ _=>True) I A)(G:dE g):A=df g m:=by
 refine List.ext_getElem? fun s=>?_;by_cases hs:s<g.bj.length
 ·have⟨f1,f2,f3⟩:=G.fst s hs;have a3:=(G.inf _ f1 f2).2.2;have hl:=h.ls s hs;rw[f3] at a3;unfold Gl.df;rw[Am,Bf hs,Ab (show s<A.length by rw[h.la];exact hs)];have hA:A[s]'(by rw[h.la];exact hs)=A.getD s []:=by rw[Ad,Ab (show s<A.length by rw[h.la];exact hs)];rfl
  rw[hA];show some _=some _;congr 1;refine aJZ (by simp only[Aj,Ay];omega) fun k hk=>?_;have hk:k<(b8 g (fU g s)).next.length:=by simpa using hk
  have:=(h.kd _ k f1 hk trivial).2.2 f2;rw[f3,show((s:Int)).toNat=s by omega] at this;rw[this,Ad,Am,Bf hk];rfl
 ·rw[Cd (by rw[h.la];omega),Cd (by simp [Gl.df];omega)]
end
def sN(b:Nat)(l:ba):AV:=.sl b 0 l.length l.length false
structure zI(S0 X:St)(bs:Nat->Nat)(cs:bf)(A:a9):Prop where
 cl:∀j,j<A.length->cs[j]? =some (sN (bs j) (A.getD j []))
 bl:∀j,j<A.length->S0.nx<=bs j/\bs j<X.nx/\X.h.get (bs j)=some (.cells (aU (A.getD j [])) false 0)
 dj:∀j k,j<A.length->k<A.length->j≠k->bs j≠bs k
section
variable {S0 X X':St}{bs:Nat->Nat}{cs:bf}{A:a9}
theorem zI.move(h:zI S0 X bs cs A)(hn:X.nx<=X'.nx)(hh:∀j,j<A.length->X'.h.get (bs j)=X.h.get (bs j)):zI S0 X' bs cs A:=
 ⟨h.cl,fun j hj=>by have⟨a,b,c⟩:=h.bl j hj;exact⟨a,Ae b hn,(hh j hj).trans c⟩,h.dj⟩
theorem zI.same(h:zI S0 X bs cs A)(hs:Same X X'):zI S0 X' bs cs A:=h.move hs.1 fun j hj=>hs.2 _ (h.bl j hj).2.1
theorem zI.none:zI S0 X bs cs []:=⟨fun j hj=>absurd hj (Bm j),fun j hj=>absurd hj (Bm j),fun j k hj=>absurd hj (Bm j)⟩
theorem aBG{l:a9}{x:ba}{j:Nat}:(l++ [x]).getD j []=if j=l.length then x else l.getD j []:=by
 rw[Ad,Ad];by_cases h:j<l.length
 ·rw[Bg h,if_neg ar]
 ·rw[Be ar];by_cases e:j=l.length
  ·rw[if_pos e,e,Eh];rfl
  ·rw[if_neg e,Cd (by simp;omega),Cd ar]
theorem zI.add(h:zI S0 X bs cs A){nb:Nat}{l:ba}{cs':bf}(h0:S0.nx<=nb)(h1:nb<X.nx)(hg:X.h.get nb=some (.cells (aU l) false 0))(hne:∀j,j<A.length->bs j≠nb)(hc:∀j,j<A.length->cs'[j]? =cs[j]?)(hl:cs'[A.length]? =some (sN nb l)):zI S0 X (fun j=>if j=A.length then nb else bs j) cs' (A++ [l]):=by
 refine⟨fun j hj=>?_,fun j hj=>?_,fun j k hj hk hjk=>?_⟩
 ·rw[Ao,Bl] at hj;rw[aBG];try simp only
  by_cases e:j=A.length
  ·rw[if_pos e,if_pos e,e];exact hl
  ·rw[if_neg e,if_neg e,hc j ar];exact h.cl j ar
 ·rw[Ao,Bl] at hj;rw[aBG];try simp only
  by_cases e:j=A.length
  ·rw[if_pos e,if_pos e];exact⟨h0,h1,hg⟩
  ·rw[if_neg e,if_neg e];exact h.bl j ar
 ·rw[Ao,Bl] at hj hk;try simp only
  by_cases e:j=A.length
  ·rw[if_pos e,if_neg ar];exact Bt (hne k ar)
  ·rw[if_neg e];by_cases e2:k=A.length
   ·rw[if_pos e2];exact hne j ar
   ·rw[if_neg e2];exact h.dj j k ar ar  hjk
theorem zI.put(h:zI S0 X bs cs A){s k:Nat}{v:Int}(hs:s<A.length){n:Nat}(hn:X.nx<=n):zI S0 ⟨X.h.set (bs s) (some (.cells (aU ((A.getD s []).set k v)) false 0)),n⟩ bs cs (A.set s ((A.getD s []).set k v)):=by
 refine⟨fun j hj=>?_,fun j hj=>?_,fun j k hj hk=>?_⟩
 ·rw[Aq] at hj;rw[uP hs,h.cl j hj];split
  ·rename_i e;unfold sN;rw[Aq,e]
  ·rfl
 ·rw[Aq] at hj;rw[uP hs];have⟨a,b,c⟩:=h.bl j hj;refine⟨a,Ae b hn,?_⟩;try simp only
  rw[di];by_cases e:s=j
  ·rw[if_pos e,if_pos (by rw[e])]
  ·rw[if_neg e,if_neg (h.dj j s hj hs (Bt e))];exact c
 ·rw[Aq] at hj hk;exact h.dj j k hj hk
theorem zI.is(h:zI S0 X bs cs A){ob cap sz:Nat}{o o':Bool}(hob:X.h.get ob=some (.cells cs o sz))(lt:ob<X.nx)(hc:A.length<=cap):aE 1 iD X (.sl ob 0 A.length cap o') A:=by
 refine .inr ⟨ob,0,cap,o',cs,rfl,hc,lt,by unfold cK;rw[hob];rfl,fun i l hi=>?_⟩;have hlt:=(Ai.1 hi).1;have e:A.getD i []=l:=by rw[Ad,hi];rfl
 have h1:=h.cl i hlt;have⟨_,h3,h4⟩:=h.bl i hlt;rw[e] at h1 h4;refine⟨[sN (bs i) l],rfl,fun j x hj=>?_,_,rfl,aDk h4 h3 rfl⟩;cases j with
 | zero=>
  cases hj;rw[An,Cr,Br];exact h1
 | succ j=>simp at hj
end
theorem fY.push1{bytes t n:Nat}{S0 S:St}{v x:AV}{cs:bf}(h:fY 1 S0 S v n cs)(hS:Same S0 S)(ht:S.h.get t=some (.cells [x] false 0))(h1:n+1<=room)(h2:(n+1) * bytes<=room):
  ∃v' S',gP bytes 1 v (.sl t 0 1 1 false) S=some (v',S')/\fY 1 S0 S' v' (n+1) (cs++ [x])/\aZ v'=some S.nx/\S'.nx=S.nx+1/\∀c,c<S.nx->aZ v≠some c->S'.h.get c=S.h.get c:=by
 have hs:=aLI ht;rcases h with⟨rfl,rfl,rfl⟩ | ⟨b,rfl,hb0,hb,hg,hc⟩
 ·refine⟨.sl S.nx 0 1 1 true,⟨S.h.set S.nx (some (.cells [x] true 1)),S.nx+1⟩,?_,.inr ⟨S.nx,by rw[An],hS.1,by simp,?_,?_⟩,rfl,rfl,fun c hc _=>(Same.alloc S _).2 c hc⟩
  ·show(bC (some 1) fun j=>bC (eY (.sl t 0 1 1 false) S.h 1 j) fun new=>aD1 .bw bytes 1 j new S)=_;rw[aL,hs,aL];show tO bytes 1 1 [x] S=_;unfold tO;rw[show Nat.beq 1 0=false from rfl,bB,Av ar,aR,Av (by rw[An] at h2;exact h2),aR];rfl
  ·simp only;rw[di,if_pos rfl];rfl
  ·rfl
 ·refine⟨.sl S.nx 0 (n+1) (n+1) true,⟨(S.h.set b none).set S.nx (some (.cells (cs++ [x]) true 1)),S.nx+1⟩,?_,.inr ⟨S.nx,rfl,hS.1,by simp,?_,by rw[Ao,hc,Bl,Ec,Nat.one_mul]⟩,rfl,rfl,fun c hc hne=>?_⟩
  ·show(bC (some 1) fun j=>bC (eY (.sl t 0 1 1 false) S.h 1 j) fun new=>aD1 (.sl b 0 n n true) bytes 1 j new S)=_;rw[aL,hs,aL];show qF bytes 1 b 0 n n true 1 [x] S=_;unfold qF;have e2:Nat.ble (n+1) n=false:=by rw[Ei];intro h;have:=Bd h;omega
   rw[e2,bB,Av h1,aR,Av h2,aR,hg,aL];have e3:cut cs 0 (n * 1)=some cs:=by
    unfold cut;rw[iF,iX,Dx,if_pos ar,Bb ar]
   have e4:Nat.beq (0+n * 1) (mC cs)=true:=by rw[fS,hc,Bj];omega
   simp only[aCc,e3,aL,aR,e4,show Nat.beq 1 1=true from rfl,grown,gE]
  ·simp only;rw[di,if_pos rfl]
  ·simp only;have:c≠b:=fun e=>hne (by rw[e];rfl);rw[di,if_neg ar,di,if_neg this]
theorem aMD{t b n c:Nat}{o:Bool}{z:AV}{x:cO}{F:Fr}{id:Nat}(hx:x.val F= .sl b 0 n c o):uW (.cj t 1 1 [z] [(0,x)]) F id=some (.sl id 0 1 1 false,.cells [.sl b 0 n c o] false 0):=by
 show(bC (eQ (repeatL [z] 1) [(0 * 1,1,x.val F)]) fun cs=>some (AV.sl id 0 1 1 false,AB.cells cs false 0))=_;rw[hx];rfl
theorem fY.move{k n:Nat}{S0 S S':St}{v:AV}{cs:bf}(h:fY k S0 S v n cs)(hn:S.nx<=S'.nx)(hh:∀c,aZ v=some c->S'.h.get c=S.h.get c):fY k S0 S' v n cs:=by
 rcases h with h | ⟨b,rfl,h2,h3,h4,h5⟩
 ·exact .inl h
 ·exact .inr ⟨b,rfl,h2,Ae h3 hn,(hh b rfl).trans h4,h5⟩
theorem fY.csl{k n:Nat}{S0 S:St}{v:AV}{cs:bf}(h:fY k S0 S v n cs):cs.length=n * k:=by
 rcases h with⟨_,rfl,rfl⟩ | ⟨b,_,_,_,_,h5⟩
 ·rw[Ep];rfl
 ·exact h5
theorem bI.place{k:IntKind}{S:St}{v:AV}{l:ba}(h:bI k S v l){i:Nat}(hi:i<l.length):∃b p,aAN v i= .ptr b p/\b<S.nx:=by
 rcases h with⟨h0,_⟩ | ⟨b,off,cap,o,cs,rfl,_,hb,_⟩
 ·rw[h0] at hi;exact absurd hi (Bm _)
 ·exact⟨b,_,rfl,hb⟩
theorem aLO{h:Ev.T AB}{a b s s':Nat}{cs cs':bf}(ha:h.get a=some (.cells cs false s))(hb:h.get b=some (.cells cs' true s')):a≠b:=fun e=>by
 rw[e,hb] at ha;have⟨_,h2,_⟩:=AB.cells.inj (Bp ha);cases h2
theorem aLB{W:Nat->Prop}{h0:Ev.T AB}{base:Nat}{F:Fr}{S:St}{Q:Fr->St->List iQ->Prop}{i a b n m1 m2 j1 j2:Nat}{z cx cy:bf}{t1 t2 u1 u2:cO}(ht1:Nat.testBit m1 j1=true)(ht2:Nat.testBit m1 j2=true)(hm2:jQ (some i) m2=true)
  (h1:t1.val F= .ptr a 0) (h2:t2.val F= .ptr b 0) (hu1:(u1.val F).cells=some cx) (hu2:(u2.val F).cells=some cy) (lz:z.length=n) (lx:cx.length=n) (ly:cy.length=n) (hab:a≠b) (hba:base<=a) (hbb:base<=b)
  (hr:∀S',S'.nx=S.nx->S'.h.get a=some (.cells cx false 0)->S'.h.get b=some (.cells cy false 0)->(∀c,c≠a->c≠b->S'.h.get c=S.h.get c)->Q F S' []):
  fF fns W h0 base [⟨none,.x (.st n t1 u1),none,m1⟩,⟨none,.x (.st n t2 u2),none,m2⟩] i F S [⟨j2,b,.cells z false 0⟩,⟨j1,a,.cells z false 0⟩] none Q:=by
 have hf:cJ m1 [⟨j2,b,.cells z false 0⟩,⟨j1,a,.cells z false 0⟩] S.h=([],(S.h.set b (some (.cells z false 0))).set a (some (.cells z false 0))):=by rw[fD ht2,fD ht1,bF]
 have hg1:((S.h.set b (some (.cells z false 0))).set a (some (.cells z false 0))).get a=some (.cells z false 0):=by rw[di,if_pos rfl]
 have x1:=kH (S:=⟨(S.h.set b (some (.cells z false 0))).set a (some (.cells z false 0)),S.nx⟩) (cs':=cx) (n:=n) hg1 lz lx;refine pD (S1:=⟨((S.h.set b (some (.cells z false 0))).set a (some (.cells z false 0))).set a (some (.cells cx false 0)),S.nx⟩) rfl ?_ ?_ ?_
 ·rw[hf,h1,hu1,aL];exact x1
 ·rw[hf];exact⟨Ag _,fun c hc _=>by simp only;rw[di,if_neg ar]⟩
 rw[hf];have hg2:(((S.h.set b (some (.cells z false 0))).set a (some (.cells z false 0))).set a (some (.cells cx false 0))).get b=some (.cells z false 0):=by rw[di,if_neg (Bt hab),di,if_neg (Bt hab),di,if_pos rfl]
 have x2:=kH (S:=⟨((S.h.set b (some (.cells z false 0))).set a (some (.cells z false 0))).set a (some (.cells cx false 0)),S.nx⟩) (cs':=cy) (n:=n) hg2 lz ly;refine pD (S1:=⟨(((S.h.set b (some (.cells z false 0))).set a (some (.cells z false 0))).set a (some (.cells cx false 0))).set b (some (.cells cy false 0)),S.nx⟩) hm2 ?_ ?_ ?_
 ·rw[bF];show bC (u2.val F).cells (fun cs=>sO (t2.val F) n cs _)=_;rw[h2,hu2,aL];exact x2
 ·rw[bF];exact⟨Ag _,fun c hc _=>by simp only;rw[di,if_neg ar]⟩
 rw[bF];refine hr _ rfl ?_ ?_ fun c hc1 hc2=>?_
 ·simp only;rw[di,if_neg hab,di,if_pos rfl]
 ·simp only;rw[di,if_pos rfl]
 ·simp only;rw[di,if_neg hc2,di,if_neg hc1,di,if_neg hc1,di,if_neg hc2]
theorem fY.low{k n:Nat}{S S1 X:St}{v:AV}{cs:bf}(h:fY k S1 X v n cs)(hs:S.nx<=S1.nx):fY k S X v n cs:=by
 rcases h with h | ⟨b,h1,h2,h3⟩
 ·exact .inl h
 ·exact .inr ⟨b,h1,Al hs h2,h3⟩
theorem zI.low{S S1 X:St}{bs:Nat->Nat}{cs:bf}{A:a9}(h:zI S1 X bs cs A)(hs:S.nx<=S1.nx):zI S X bs cs A:=⟨h.cl,fun j hj=>by have⟨a,b⟩:=h.bl j hj;exact⟨Al hs a,b⟩,h.dj⟩
def aAT(g:aS):a9:=g.bj.map fun x=>List.replicate x.bt.toNat 0
def aRU(S1:St)(gb:Nat)(mv:AV)(g:aS)(k:Nat)(A:bG)(X:St):Prop:=A.inr=false/\Same S1 X/\∃i v w cs bs,i+k=g.bj.length/\fY 1 S1 X v i (aU (List.replicate i (-1)))/\fY 1 S1 X w i cs/\zI S1 X bs cs ((aAT g).take i)/\(∀c,aZ v=some c->aZ w≠some c)/\aD 1 A.F=mv/\aD 2 A.F= .ptr gb 0/\aD 4 A.F=v/\aD 5 A.F=w/\aD 7 A.F= .int .i64 (i:Int)
theorem aR0{g:aS}{m:ba}(G:dE g):Seen g m (fun j=>j<0) (fun j _=>j<0) (List.replicate g.bj.length (-1)) (aAT g):=by
 refine⟨Au ..,by unfold aAT;rw[Aj],fun s hs=>?_,fun j _ hj=>ar,fun s hs h0=>?_,fun j _ hj=>ar,fun j k _ _ hj=>ar⟩
 ·have⟨f1,f2,f3⟩:=G.fst s hs;have hac:=(G.inf _ f1 f2).2.2;rw[f3] at hac;have e:(aAT g).getD s []=List.replicate (cd g (s:Int)).bt.toNat 0:=by
   unfold aAT cd;rw[Ad,Am,Ad,Az,Ab hs];rfl
  rw[e,Au];omega
 ·rw[Ad,Ch,if_pos hs] at h0;exact absurd h0 ay
def aRF(S1:St)(gb:Nat)(mv v w:AV)(cs:bf)(bs:Nat->Nat)(g:aS)(m:ba)(k:Nat)(A:bG)(X:St):Prop:=A.inr=false/\Same S1 X/\∃i I As,i+k=g.bh.length/\fY 1 S1 X v g.bj.length (aU I)/\fY 1 S1 X w g.bj.length cs/\zI S1 X bs cs As/\Seen g m (fun j=>j<i) (fun j _=>j<i) I As/\aD 1 A.F=mv/\aD 2 A.F= .ptr gb 0/\aD 4 A.F=v/\aD 5 A.F=w/\aD 8 A.F= .int .i64 (i:Int)
theorem uI{h:Ev.T AB}{b p sz:Nat}{l:ba}{o:Bool}(hb:h.get b=some (.cells (aU l) o sz))(hp:p<l.length):dT (.ptr b p) false 1 h=some (.int .i64 (l.getD p 0)):=dI hb (by
 unfold aU;rw[Am,Ab hp,Ad,Ab hp];rfl)
theorem pH{k:IntKind}{x:Int}(h:0<=x):fP (.int k x)=some x.toNat:=by
 obtain⟨n,rfl⟩:∃n:Nat,x=(n:Int):=⟨x.toNat,ar⟩;rw[Az];exact aH ..
def mA(F:Fr)(gb xb yb:Nat)(mv v w:AV)(i:Nat):Prop:=aD 1 F=mv/\aD 2 F= .ptr gb 0/\aD 4 F=v/\aD 5 F=w/\aD 8 F= .int .i64 (i:Int)/\aD 9 F= .ptr xb 0/\aD 10 F= .ptr yb 0
theorem wS{x0 x1 x2:Int}{a b c:AV}{k:IntKind}(ha:cE a a=true)(hb:cE b b=true)(hc:cE c c=true):cE (.agg [.int k x0,.int k x1,.int k x2,a,b,c]) (.agg [.int k x0,.int k x1,.int k x2,a,b,c])=true:=aBw (dH ..) (dH ..) (dH ..) ha hb hc
theorem aJm{g:aS}{m:ba}{i k:Nat}(h:0<=jN g m i k):(jN g m i k).toNat<(b8 g (fG m i)).next.length:=by
 unfold jN at h ⊢;rcases sC (c:=m.getD ((b8 g i).next.getD k 0).toNat 0) (l:=(b8 g (fG m i)).next) (s:=0) with⟨h1,_⟩ | ⟨j,h1,h2,_⟩
 ·rw[h1] at h;exact absurd h ay
 ·rw[h1];have:=(Ai.1 h2).1;omega
def aRL(S1:St)(gb xb yb:Nat)(mv v w:AV)(cs:bf)(bs:Nat->Nat)(g:aS)(m:ba)(i:Nat)(kn:Bool)(cx cy:Option AB)(k:Nat)(A:bG)(X:St):Prop:=A.inr=false/\Same S1 X/\xb<X.nx/\yb<X.nx/\∃kk I As,kk+k=(b8 g i).next.length/\fY 1 S1 X v g.bj.length (aU I)/\fY 1 S1 X w g.bj.length cs/\zI S1 X bs cs As/\Seen g m (fun j=>j<i\/j=i) (fun j k'=>j<i\/(j=i/\k'<kk)) I As/\mA A.F gb xb yb mv v w i/\X.h.get xb=cx/\X.h.get yb=cy/\aD 11 A.F= .bool kn/\aD 12 A.F= .int .i64 (kk:Int)
def aQI(X0:St)(v w:AV)(I:ba)(n k:Nat)(A:bG)(X:St):Prop:=A.inr=false/\Same X0 X/\∃i,i+k=n/\(∀a b,b<a->a<i->I.getD a 0≠I.getD b 0)/\aD 4 A.F=v/\aD 5 A.F=w/\aD 14 A.F= .int .i64 (i:Int)
def aQS(X0:St)(v w:AV)(I:ba)(i k:Nat)(A:bG)(X:St):Prop:=A.inr=false/\Same X0 X/\∃l,l+k=i/\(∀b,b<l->I.getD i 0≠I.getD b 0)/\aD 4 A.F=v/\aD 5 A.F=w/\aD 14 A.F= .int .i64 (i:Int)/\aD 15 A.F= .int .i64 (l:Int)
def aEg(S1:St)(g:aS)(m:ba)(A:bG)(X:St):Prop:=Same S1 X/\¬iR g m/\aD 4 A.F= .bw/\aD 5 A.F= .bw/\aD 6 A.F= .bool false
def aJq(g:aS)(m:ba)(S S':St)(x y:AV):Prop:=fY 1 S S' x g.bj.length (aU (de g m))/\∃cs bs,fY 1 S S' y g.bj.length cs/\zI S S' bs cs (df g m)
theorem xR{S:St}{nv iv mv:AV}{g:aS}{m:ba}(H:Has fns)(hn:aE 6 bX S nv g.bh)(hi:aE 2 bP S iv g.bj)(hm:bI .i64 S mv m)(G:dE g)(M:aCJ g m):
  fZ fns (.fn 72 [] []) [.agg [.int .i64 g.bo,nv,iv],mv] S fun r S'=>Same S S'/\∃a b t,r= .tup [a,b,.bool t]/\(t=true↔iR g m)/\(t=true->aJq g m S S' a b):=by
 have hml:0<m.length:=by rw[M.len];exact G.n1
 have hN:=G.n2;have hNI:=G.ni;refine cF H.f72 (by simp) ?_;refine ae ?_;refine bO ?_;refine cI (by refine ae ?_;exact aY _) ?_;intro S1 s1 n1 c1;refine ae ?_;have lg1:S.nx<S1.nx:=by omega
 have hm1:=hm.same s1;have ia0:=hm1.cp hml;have la0:=hm1.ld hml;refine fC (dp @aKt ia0 la0 ?_);by_cases h0:m.getD 0 0=0;rotate_left
 ·refine aN (by simp only[↓sU,sD,rE,↓reduceIte,rA,Ac (show m.getD 0 0≠0 from h0)]) ?_;refine bO (ae ?_);refine aP (ae ?_);exact⟨s1,_,_,false,rfl,⟨fun h=>(by cases h),fun a=>absurd a.root h0⟩,fun h=>by cases h⟩
 refine aM (by simp only[↓sU,sD,rE,↓reduceIte,rA,Aa (show ¬m.getD 0 0≠0 from fun h=>h h0)]) (aI ?_);try refine ae ?_
 refine aA (aX (Q:=fun o A' X=>o= .normal/\aRU S1 S.nx mv g 0 A' X) (aA (aJ ?_)) ?_)
 ·refine ae ?_;refine aK (bH (aRU S1 S.nx mv g) ?_ g.bj.length _ _ ⟨rfl,dk _,0,.bw,.bw,[],fun _=>0,ar,.inl ⟨rfl,rfl,rfl⟩,.inl ⟨rfl,rfl,rfl⟩,zI.none,(fun c hc=>by cases hc),by refine⟨?_,?_,?_,?_,?_⟩<;>simp only[↓sU,sD,rE,↓reduceIte,rA]⟩);rintro k ⟨F,inr⟩ X ⟨q0,hX,i,v,w,cs,bs,hik,gv,gw,hR,hvw,p1,p2,p4,p5,p7⟩;simp only at q0 p1 p2 p4 p5 p7;subst q0;have lgX:S.nx<X.nx:=Ae lg1 hX.1;have cX:X.h.get S.nx=some (.cells [.int .i64 g.bo,nv,iv] false 0):=by rw[hX.2 _ lg1];exact c1
  refine fC (dt p2 p7 @aC @aB (fH cX) hi.len ?_);by_cases hlt:i<g.bj.length
  ·refine aN (by simp only[↓sU,sD,rE,↓reduceIte,rA,Ac (show(i:Int)<(g.bj.length:Int) by omega)]) (aI ?_);try refine ae ?_
   have⟨f1,f2,f3⟩:=G.fst i hlt;have hac:=(G.inf _ f1 f2).2.2;rw[f3] at hac;have⟨e,b,q,hian,hb,he,heq,_,hlf⟩:=aE.at hi ay (Ab hlt);have hia':g.bj[i]=cd g (i:Int):=by unfold cd;rw[Ad,Az,Ab hlt];rfl
   unfold bP at heq;subst heq;have hl1:=hlf 1 _ rfl;rw[hia',hac] at hl1;rw[<-iA (s1.trans hX) hb] at hl1;have hnl:(b8 g (fU g i)).next.length<=1000:=G.nxt _ f1;generalize hna:(b8 g (fU g i)).next.length=na at *;have hgW:¬ (aZ v=some S.nx\/aZ w=some S.nx):=by
    rintro(h | h)
    ·have:=(gv.blk h).1;omega
    ·have:=(gw.blk h).1;omega
   have hbW:¬ (aZ v=some b\/aZ w=some b):=by
    rintro(h | h)
    ·have:=(gv.blk h).1;omega
    ·have:=(gw.blk h).1;omega
   have lbX:b<X.nx:=by omega
   have ev28:∀ (F:Fr) (id:Nat),uW (.cj 3 1 1 [.int .i64 0] [(0,.c (.int .i64 (.negSucc 0)))]) F id=some (.sl id 0 1 1 false,.cells [.int .i64 (-1)] false 0):=fun F id=>nQ rfl;have w1:=dh i
   refine aA (aK (kJ (fun c=>aZ v=some c\/aZ w=some c) ?_));have sB:Same X ⟨X.h.set (X.nx+1) (some (.cells [.int .i64 (-1)] false 0)),X.nx+15⟩:=⟨by simp,fun c hc=>by simp only;rw[di,if_neg ar]⟩;have⟨v',S2,eA,gA,bA,nA,rA⟩:=fY.push1 (bytes:=8) (t:=X.nx+1) (x:=.int .i64 (-1)) (gv.step sB) (hX.trans sB) fk ax ax;simp only at bA nA rA;refine dn p4 ev28 ?_;refine lQ (r:=v') (S1:=S2) rfl ?_ ?_ ?_
   ·rw[cP (show Nat.testBit 3 1=true by decide)];refine ae ?_;exact eA
   ·rw[cP (show Nat.testBit 3 1=true by decide)];exact⟨by simp only;omega,fun c hc hw=>rA c ar fun e=>hw (.inl e)⟩
   rw[cP (show Nat.testBit 3 1=true by decide)];have siv:=aE.self hi;simp only[↓sU,sD,rE,↓reduceIte,rA,p2,p5,p7,aC,aQ,aB,fH cX,lgX,hgW,Ak,siv,aH,hian,hl1,lbX,hbW];refine pN (n:=na) (by simp only[↓sU,sD,rE,↓reduceIte,rA,aH]) (by simp only[↓sU,sD,rE,↓reduceIte,rA,aH]) ax ax  ?_;refine ae ?_;rw[aMD (b:=X.nx+10) (n:=na) (c:=na) (o:=false) (af),mM];have hA0:((aAT g).take i).length=i:=by unfold aAT;rw[Ca,Aj];omega
   have hA1:(aAT g).take (i+1)=(aAT g).take i++ [List.replicate na 0]:=by
    rw[Bn];congr 1;unfold aAT;rw[Am,Ab hlt,hia'];show [List.replicate (cd g (i:Int)).bt.toNat 0]=_;rw[hac,Az]
   have hz:repeatL [AV.int .i64 0] na=aU (List.replicate na 0):=qJ na;have hm1:∀c,aZ v=some c->c<X.nx:=fun c hc=>(gv.blk hc).2.1;have hm2:∀c,aZ w=some c->c<X.nx:=fun c hc=>(gw.blk hc).2.1;have hflip:∀c,aZ w=some c->aZ v≠some c:=fun c h1 h2=>hvw c h2 h1;generalize hX2:(⟨(S2.h.set (X.nx+11) (some (.cells [.sl (X.nx+10) 0 na na false] false 0))).set (X.nx+10) (some (.cells (repeatL [.int .i64 0] na) false 0)),S2.nx⟩:St)=X2;have k2:∀c,c≠X.nx+10->c≠X.nx+11->X2.h.get c=S2.h.get c:=fun c h1 h2=>by rw[<-hX2];simp only;rw[di,if_neg h1,di,if_neg h2]
   have k10:X2.h.get (X.nx+10)=some (.cells (aU (List.replicate na 0)) false 0):=by rw[<-hX2,hz];simp only;rw[di,if_pos rfl]
   have k11:X2.h.get (X.nx+11)=some (.cells [sN (X.nx+10) (List.replicate na 0)] false 0):=by rw[<-hX2];simp only;rw[di,if_neg ar,di,if_pos rfl];unfold sN;rw[Au]
   have n2:X2.nx=X.nx+16:=by rw[<-hX2];simp only;omega
   have hold2:∀c,c<X.nx->aZ v≠some c->X2.h.get c=X.h.get c:=fun c hc hne=>by rw[k2 c ar ar,rA c ar hne,sB.2 c hc]
   have sX2:Same S1 X2:=⟨au hX.1,fun c hc=>by rw[hold2 c (au hX.1) (fun e=>by have:=(gv.blk e).1;omega)];exact hX.2 c hc⟩;have gw2:fY 1 S1 X2 w i cs:=gw.move ar fun c hc=>hold2 c (hm2 c hc) (hflip c hc);have⟨w',S3,eW,gB,bW,nW,rW⟩:=fY.push1 (bytes:=24) gw2 sX2 k11 ax ax;have hold3:∀c,c<X.nx->aZ v≠some c->aZ w≠some c->S3.h.get c=X.h.get c:=fun c hc h1 h2=>by rw[rW c ar h2,hold2 c hc h1]
   have sX3:Same S1 S3:=⟨au sX2.1,fun c hc=>by rw[rW c (au sX2.1) (fun e=>by have:=(gw.blk e).1;omega)];exact sX2.2 c hc⟩;have gv3:fY 1 S1 S3 v' (i+1) (aU (List.replicate i (-1))++ [.int .i64 (-1)]):=gA.move ar fun c hc=>by
    rw[bA] at hc;cases hc;rw[rW _ ar (fun e=>by have:=hm2 _ e;omega),k2 _ ar ar]
   have e1:aU (List.replicate i (-1))++ [.int .i64 (-1)]=aU (List.replicate (i+1) (-1)):=by
    rw[List.replicate_succ'];unfold aU;rw[Dz];rfl
   rw[e1] at gv3;have hcl:=gw.csl;have hR3:zI S1 S3 (fun j=>if j=((aAT g).take i).length then X.nx+10 else bs j) (cs++ [sN (X.nx+10) (List.replicate na 0)]) ((aAT g).take i++ [List.replicate na 0]):=by
    refine zI.add (hR.move ar fun j hj=>?_) (au hX.1) ar ?_ (fun j hj=>?_) (fun j hj=>?_) ?_
    ·have⟨_,b2,b3⟩:=hR.bl j hj;exact hold3 _ b2 (gv.off b3) (gw.off b3)
    ·rw[rW _ ar (fun e=>by have:=hm2 _ e;omega)];exact k10
    ·have:=(hR.bl j hj).2.1;omega
    ·rw[Bg ar]
    ·rw[Be ar,hA0,show i - cs.length=0 by omega];rfl
   refine lQ (r:=w') (S1:=S3) rfl ?_ ?_ ?_
   ·rw[fD (show Nat.testBit 4095 11=true by decide),fD (show Nat.testBit 4095 10=true by decide),bF,hX2];refine ae ?_;exact eW
   ·rw[fD (show Nat.testBit 4095 11=true by decide),fD (show Nat.testBit 4095 10=true by decide),bF,hX2];exact⟨ar,fun c hc hw=>rW c ar fun e=>hw (.inr e)⟩
   rw[fD (show Nat.testBit 4095 11=true by decide),fD (show Nat.testBit 4095 10=true by decide),bF];refine ae ?_;refine aJ (dn p7 w1 ?_);refine⟨k - 1,ar,rfl,sX3,i+1,v',w',_,_,ar,gv3,gB,by rw[hA1];exact hR3,fun c h1 h2=>?_,by refine⟨?_,?_,?_,?_,?_⟩<;>simp only[↓sU,sD,rE,↓reduceIte,rA,p1,p2]⟩;rw[bA] at h1;rw[bW] at h2;have h1:=Bp h1;have h2:=Bp h2;omega
  ·refine aM (by simp only[↓sU,sD,rE,↓reduceIte,rA,Aa (show ¬ (i:Int)<(g.bj.length:Int) by omega)]) (bJ ?_);refine ae ?_;have hk0:k=0:=by omega
   subst hk0;exact⟨rfl,hX,i,v,w,cs,bs,hik,gv,gw,hR,hvw,by refine⟨?_,?_,?_,?_,?_⟩<;>simp only[↓sU,sD,rE,↓reduceIte,rA,p1,p2,p4,p5,p7]⟩
 rintro o ⟨F,inr⟩ X ⟨rfl,q0,hX,i,v,w,cs,bs,hik,gv,gw,hR,hvw,p1,p2,p4,p5,p7⟩;simp only at q0 p1 p2 p4 p5;subst q0;clear p7;obtain rfl:i=g.bj.length:=by omega
 have hAl:(aAT g).length=g.bj.length:=by unfold aAT;rw[Aj]
 rw[Bb ar] at hR;try refine ae ?_
 refine aA (aX (Q:=fun o A' Y=>(o= .normal/\aRF S1 S.nx mv v w cs bs g m 0 A' Y)\/(o= .ret/\aEg S1 g m A' Y)) (aA (aJ ?_)) ?_)
 ·refine ae ?_;refine aK (bH (aRF S1 S.nx mv v w cs bs g m) ?_ g.bh.length _ _ ⟨rfl,hX,0,_,_,ar,gv,gw,hR,aR0 G,by refine⟨?_,?_,?_,?_,?_⟩<;>simp only[↓sU,sD,rE,↓reduceIte,rA,p1,p2,p4,p5]⟩);clear p1 p2 p4 p5 gv gw hR hX X;rintro k ⟨F,inr⟩ X ⟨q0,hX,i,I,As,hik,gv,gw,hR,hS,p1,p2,p4,p5,p8⟩;simp only at q0 p1 p2 p4 p5 p8;subst q0;refine fC (dr p1 p8 hm.len M.len @Ah ?_);by_cases hlt:i<g.bh.length;rotate_left
  ·refine aM (by simp only[↓sU,sD,rE,↓reduceIte,rA,Aa (show ¬ (i:Int)<(g.bh.length:Int) by omega)]) (bJ ?_);refine ae ?_;have hk0:k=0:=by omega
   subst hk0;exact .inl ⟨rfl,hX,i,I,As,hik,gv,gw,hR,hS,by refine⟨?_,?_,?_,?_,?_⟩<;>simp only[↓sU,sD,rE,↓reduceIte,rA,p1,p2,p4,p5,p8]⟩
  refine aN (by simp only[↓sU,sD,rE,↓reduceIte,rA,Ac (show(i:Int)<(g.bh.length:Int) by omega)]) (aI ?_);try refine ae ?_
  have lgX:S.nx<X.nx:=Ae lg1 hX.1;have cX:X.h.get S.nx=some (.cells [.int .i64 g.bo,nv,iv] false 0):=by rw[hX.2 _ lg1];exact c1
  have sX:=s1.trans hX;have hmX:=hm.same sX;have ia:=hmX.cp (show i<m.length by rw[M.len];exact hlt);have la:=hmX.ld (show i<m.length by rw[M.len];exact hlt);have⟨hto,htoN⟩:=M.at hlt;rw[hto] at la;obtain⟨_,bx,qx,hiax,hbx,_,⟨xa,xw,xp,rfl,hxa,hxw,hxp⟩,hldx,_⟩:=aE.at hn ay (gI hlt);obtain⟨_,by',qy,hiay,hby,_,⟨ya,yw,yp,rfl,hya,hyw,hyp⟩,hldy,_⟩:=aE.at hn ay (gI htoN);rw[<-iA sX hbx] at hldx;rw[<-iA sX hby] at hldy;have snv:=aE.self hn;have sx:=wS (k:=.i64) (x0:=(b8 g i).kind) (x1:=(b8 g i).player) (x2:=(b8 g i).info) (bI.self hxa) (bI.self hxw) (bI.self hxp);have sy:=wS (k:=.i64) (x0:=(b8 g (fG m i)).kind) (x1:=(b8 g (fG m i)).player) (x2:=(b8 g (fG m i)).info) (bI.self hya) (bI.self hyw) (bI.self hyp);have lbx:bx<X.nx:=Ae hbx sX.1;have lby:by'<X.nx:=Ae hby sX.1;have lel:∀ {i:Nat},i<m.length->∃b p,aAN mv i= .ptr b p/\b<X.nx:=fun {i} h=>bI.place hmX h;have⟨bm,pm,hem,lbm⟩:=lel (show i<m.length by rw[M.len];exact hlt);rw[hem] at ia la;have w1:=dh i
  refine aA (aK (aA (kJ (fun _=>False) ?_)));simp only[↓sU,sD,rE,↓reduceIte,rA,p1,p2,p8,aC,aQ,aB,fR cX,lgX,Ak,snv,aH,hiax,hldx,sx,lbx,ia,la,lbm,hiay,hldy,sy,lby,oS];refine aLB (n:=6) rfl rfl rfl (af) (af) (by refine ae ?_;exact aY _) (by refine ae ?_;exact aY _) rfl rfl rfl ar ar ar ?_;intro X1 hX1n hgx hgy hX1;rw[bF];have hX1n:X1.nx=X.nx+17:=hX1n;have sX1:Same X X1:=⟨ar,fun c hc=>hX1 c ar ar⟩;have lxX:X.nx<=X.nx+13:=by omega
  have lyX:X.nx<=X.nx+14:=by omega
  have lx1:X.nx+13<X1.nx:=by omega
  have ly1:X.nx+14<X1.nx:=by omega
  show iM fns _ _ X1 _;refine aA (aA (aX (Q:=fun o A' Y=>o= .normal/\A'.inr=false/\Same X1 Y/\mA A'.F S.nx (X.nx+13) (X.nx+14) mv v w i/\∃t,aD 87 A'.F= .bool t/\(t=true↔¬aCH g m i)) (aJ ?_) ?_))
  ·have sX1':=sX.trans sX1;have hxa1:=hxa.same sX1';have hya1:=hya.same sX1';have hxp1:=hxp.same sX1';have hyp1:=hyp.same sX1';by_cases q1:(b8 g i).kind=(b8 g (fG m i)).kind;rotate_left
   ·simp only[↓sU,sD,rE,↓reduceIte,rA,aC,aB,eK hgx,eK hgy,Ac (show(b8 g i).kind≠(b8 g (fG m i)).kind from q1),mA,p1,p2,p4,p5,p8];exact⟨dk _,true,rfl,fun _ h=>q1 h.1,fun _=>rfl⟩
   by_cases q2:(b8 g i).next.length=(b8 g (fG m i)).next.length;rotate_left
   ·simp only[↓sU,sD,rE,↓reduceIte,rA,aC,aB,eK hgx,eK hgy,dC hgx,dC hgy,hxa1.len,hya1.len,Ah,Aa (show ¬ (b8 g i).kind≠(b8 g (fG m i)).kind from fun h=>h q1),Ac (show(((b8 g i).next.length:Nat):Int)≠(((b8 g (fG m i)).next.length:Nat):Int) by omega),mA,p1,p2,p4,p5,p8];exact⟨dk _,true,rfl,fun _ h=>q2 h.2.1,fun _=>rfl⟩
   simp only[↓sU,sD,rE,↓reduceIte,rA,aC,aB,eK hgx,eK hgy,dC hgx,dC hgy,dZ hgx,dZ hgy,hxa1.len,hya1.len,Ah,Aa (show ¬ (b8 g i).kind≠(b8 g (fG m i)).kind from fun h=>h q1),Aa (show ¬ (((b8 g i).next.length:Nat):Int)≠(((b8 g (fG m i)).next.length:Nat):Int) by omega),mA,p1,p2,p4,p5,p8];refine bD (ae ?_);refine aW (aHf H hxp1 hyp1 (by have:=G.pay i hlt;omega)) ?_;rintro _ Y ⟨rfl,hY⟩;by_cases q3:(b8 g i).pay=(b8 g (fG m i)).pay;rotate_left
   ·refine dw @eM (Aa q3) @Ci p1 p2 p4 p5 p8 ?_;exact⟨hY,true,rfl,fun _ h=>q3 h.2.2.1,fun _=>rfl⟩
   have hgxY:Y.h.get (X.nx+13)=_:=(hY.2 _ lx1).trans hgx;have hgyY:Y.h.get (X.nx+14)=_:=(hY.2 _ ly1).trans hgy;simp only[↓sU,sD,rE,↓reduceIte,rA,eM,Ac q3,Cc,aC,aB,dK hgxY,dK hgyY,p1,p2,p4,p5,p8];refine⟨hY,_,rfl,?_⟩;rw[Cf];exact⟨fun h hl=>h hl.2.2.2,fun h he=>h ⟨q1,q2,q3,he⟩⟩
  clear p1 p2 p4 p5 p8;rintro o ⟨F,inr⟩ Y ⟨rfl,q0,hY,hP,t,p87,hLt⟩;simp only at q0 hP p87;subst q0;have⟨p1,p2,p4,p5,p8,p9,p10⟩:=hP;have sXY:=sX1.trans hY;have sSY:=hX.trans sXY;try refine ae ?_
  cases t with
  | true=>
   refine aN (ah p87) ?_;refine bO (ae ?_);refine aP (ae ?_);refine .inr ⟨sSY,aJG hlt (hLt.1 rfl),?_⟩;simp only[↓sU,sD,rE,↓reduceIte,rA]
  | false=>
  have hL:aCH g m i:=Classical.byContradiction fun h=>by have:=hLt.2 h;cases this
  refine aM (ah p87) (aI ?_);try refine ae ?_
  clear p87 hLt;have gvY:=gv.step sXY;have gwY:=gw.step sXY;have hRY:=hR.same sXY;have hgxY:=(hY.2 _ lx1).trans hgx;have hgyY:=(hY.2 _ ly1).trans hgy;have lxY:X.nx+13<Y.nx:=Ae lx1 hY.1;have lyY:X.nx+14<Y.nx:=Ae ly1 hY.1;clear hgx hgy hX1 hX1n;refine bO (ae ?_);refine aA (aX (Q:=fun o A' Z=>(o= .normal/\A'.inr=false/\Y.nx<=Z.nx/\Same S1 Z/\(∃I',fY 1 S1 Z v g.bj.length (aU I')/\fY 1 S1 Z w g.bj.length cs/\zI S1 Z bs cs As/\Seen g m (fun j=>j<i\/j=i) (fun j _=>j<i) I' As)/\mA A'.F S.nx (X.nx+13) (X.nx+14) mv v w i/\Z.h.get (X.nx+13)=Y.h.get (X.nx+13)/\Z.h.get (X.nx+14)=Y.h.get (X.nx+14)/\∃kn,aD 11 A'.F= .bool kn/\((b8 g i).kind=2->(kn=true↔∃j,j<i/\(b8 g j).kind=2/\(b8 g j).info=(b8 g i).info))/\((b8 g i).kind≠2->kn=false))\/(o= .ret/\aEg S1 g m A' Z)) (aA (aJ ?_)) ?_)
  ·refine dq p9 @aC @aB (eK hgxY) ?_;by_cases hk:(b8 g i).kind=2;rotate_left
   ·refine aM (by simp only[↓sU,sD,rE,↓reduceIte,rA,Aa hk]) (aI ?_);refine .inl ⟨rfl,rfl,Ag _,sSY,⟨I,gvY,gwY,hRY,hS.node hL hk⟩,?_,rfl,rfl,false,af,fun h=>absurd h hk,fun _=>rfl⟩;simp only[↓sU,sD,rE,↓reduceIte,rA,mA,p1,p2,p4,p5,p8,p9,p10]
   refine aN (by simp only[↓sU,sD,rE,↓reduceIte,rA,Ac hk]) ?_;have⟨a1,a2,a3⟩:=G.inf i hlt hk;have hs:(b8 g i).info.toNat<g.bj.length:=by omega
   have hsI:(b8 g i).info.toNat<I.length:=by rw[hS.li];exact hs
   have hni:=pH (k:=.i64) a1;rcases gvY with⟨_,h0',_⟩ | ⟨vb,hv,hvb0,hvb1,hvb2,hvb3⟩
   ·rw[h0'] at hs;exact absurd hs (Bm _)
   have hia:=dR (b:=vb) (o:=true) hs;have hld:=uI hvb2 hsI;refine bO ?_;simp only[↓sU,sD,rE,↓reduceIte,rA,p4,p9,aC,aB,cV hgxY,hni,hv,hia,hld];have hknow:0<=I.getD (b8 g i).info.toNat 0↔∃j,j<i/\(b8 g j).kind=2/\(b8 g j).info=(b8 g i).info:=by
    constructor
    ·intro h;have⟨j,b1,b2,b3,b4⟩:=hS.iw _ hs h;exact⟨j,b2,b3,ar⟩
    ·rintro⟨j,b2,b3,b4⟩;have:=hS.iv j ar b2 b3;rw[<-b4,this];exact(qY G M ar (hS.lk j ar b2) b3).1
   refine aA (aX (Q:=fun o A' Z=>(o= .normal/\A'.inr=false/\Z=⟨Y.h,Y.nx+11⟩/\mA A'.F S.nx (X.nx+13) (X.nx+14) mv v w i/\aD 11 A'.F= .bool (decide (0<=I.getD (b8 g i).info.toNat 0))/\(0<=I.getD (b8 g i).info.toNat 0->I.getD (b8 g i).info.toNat 0=(b8 g (fG m i)).info))\/(o= .ret/\aEg S1 g m A' Z)) (aA (gD ?_)) ?_)
   ·by_cases hkn:0<=I.getD (b8 g i).info.toNat 0
    ·simp only[↓sU,sD,rE,↓reduceIte,rA,p4,p9,p10,aC,aQ,aB,cV hgxY,cV hgyY,hni,hv,hia,hld,Ac (show I.getD (b8 g i).info.toNat 0≥0 from hkn)];by_cases he:I.getD (b8 g i).info.toNat 0=(b8 g (fG m i)).info
     ·refine aM (by simp only[↓sU,sD,rE,↓reduceIte,rA,Aa (show ¬I.getD (b8 g i).info.toNat 0≠(b8 g (fG m i)).info from fun h=>h he)]) (aI ?_);refine .inl ⟨rfl,rfl,rfl,?_,?_,fun _=>he⟩
      ·simp only[↓sU,sD,rE,↓reduceIte,rA,mA,p1,p2,p4,p5,p8,p9,p10,hv]
      ·simp only[↓sU,sD,rE,↓reduceIte,rA,Ac hkn]
     ·refine aN (by simp only[↓sU,sD,rE,↓reduceIte,rA,Ac (show I.getD (b8 g i).info.toNat 0≠(b8 g (fG m i)).info from he)]) ?_;refine bO (ae ?_);refine aP ?_;refine .inr ⟨rfl,sSY.trans (Same.nx _ _),hS.no_info G hlt hk hkn he,?_⟩;simp only[↓sU,sD,rE,↓reduceIte,rA]
    ·refine dm (Aa (show ¬I.getD (b8 g i).info.toNat 0≥0 from hkn)) ?_;refine aM (af) (aI ?_);refine .inl ⟨rfl,rfl,rfl,?_,?_,fun h=>absurd h hkn⟩
     ·simp only[↓sU,sD,rE,↓reduceIte,rA,mA,p1,p2,p4,p5,p8,p9,p10,hv]
     ·simp only[↓sU,sD,rE,↓reduceIte,rA,Aa hkn]
   clear p1 p2 p4 p5 p8 p9 p10;rintro o ⟨F,inr⟩ Z (⟨rfl,q0,rfl,hP,p11,hke⟩ | ⟨rfl,hf⟩);rotate_left
   ·refine ae ?_;exact .inr hf
   simp only at q0 hP p11;subst q0;have⟨p1,p2,p4,p5,p8,p9,p10⟩:=hP;try refine ae ?_
   refine aJ ?_;simp only[↓sU,sD,rE,↓reduceIte,rA,p4,p9,p10,aC,aB,cV hgxY,cV hgyY,hni,hv,hia];refine fI (fun call=>by refine dn @dS @cR ?_;exact sM (S:=⟨Y.h,Y.nx+11⟩) hvb2 hsI) ?_;refine ae ?_;have hvw':aZ w≠some vb:=hvw vb (by rw[hv];rfl);have hvbX:vb<X.nx:=by
    rcases gv with⟨h,_⟩ | ⟨vb',h,_,h2,_⟩
    ·rw[h] at hv;cases hv
    ·rw[h] at hv;cases hv;exact h2
   refine .inl ⟨ar,⟨by have:=sSY.1;simp only;omega,fun c hc=>?_⟩,⟨_,.inr ⟨vb,rfl,hvb0,Ae hvb1 (Ba _ _),fk,by unfold aU at hvb3 ⊢;rw[Aj] at hvb3 ⊢;rw[Aq];exact hvb3⟩,gwY.move (Ba _ _) (fun c hc=>?_),hRY.move (Ba _ _) (fun j hj=>?_),hS.nodeM G M hlt hL hk hke⟩,?_,?_,?_,decide (0<=I.getD (b8 g i).info.toNat 0),ah p11,fun _=>?_,fun h=>absurd hk h⟩
   ·simp only;rw[di,if_neg ar];exact sSY.2 c hc
   ·simp only;rw[di,if_neg (fun e=>hvw' (by rw[hc,e]))]
   ·simp only;rw[di,if_neg (aLO (hRY.bl j hj).2.2 hvb2)]
   ·simp only[↓sU,sD,rE,↓reduceIte,rA,mA,p1,p2,p4,p5,p8,p9,p10,hv]
   ·try simp only
    rw[di,if_neg ar]
   ·try simp only
    rw[di,if_neg ar]
   ·rw[Cf];exact hknow
  clear p1 p2 p4 p5 p8 p9 p10;rintro o ⟨F,inr⟩ Z (⟨rfl,q0,hYZ,sSZ,⟨I',gvZ,gwZ,hRZ,hSZ⟩,hP,ex,ey,kn,p11,hkn,hkf⟩ | ⟨rfl,hf⟩);rotate_left
  ·refine ae ?_;exact .inr hf
  simp only at q0 hP p11;subst q0;have hbs:∀s,s<g.bj.length->bs s<X.nx:=fun s hs=>(hR.bl s (by rw[hS.la];exact hs)).2.1;have hcr:∀c∈(b8 g i).next,0<=c/\c<g.bh.length:=fun c hc=>by
   have⟨T,_,hTl,hW⟩:=G.walk;have:=hW.cf i ar c (by rw[An,jC];exact hc);omega
  rw[hgxY] at ex;rw[hgyY] at ey;clear gvY gwY hRY hgxY hgyY gv gw hR hS hY sXY sSY ia la;have⟨p1,p2,p4,p5,p8,p9,p10⟩:=hP;try refine ae ?_
  refine bO (ae ?_);refine aX (Q:=fun o A' W=>(o= .normal/\aRL S1 S.nx (X.nx+13) (X.nx+14) mv v w cs bs g m i kn (Z.h.get (X.nx+13)) (Z.h.get (X.nx+14)) 0 A' W)\/(o= .ret/\aEg S1 g m A' W)) (aK (bH (aRL S1 S.nx (X.nx+13) (X.nx+14) mv v w cs bs g m i kn (Z.h.get (X.nx+13)) (Z.h.get (X.nx+14))) ?_ (b8 g i).next.length _ _ ⟨rfl,sSZ,ar,ar,0,I',As,ar,gvZ,gwZ,hRZ,hSZ.congr (fun _ _=>Iff.rfl) (fun j k' _ _ h=>ar),(by simp only[↓sU,sD,rE,↓reduceIte,rA,mA,p1,p2,p4,p5,p8,p9,p10]),rfl,rfl,(ah p11),(af)⟩)) ?_
  ·clear p1 p2 p4 p5 p8 p9 p10 p11 gvZ gwZ hRZ hSZ sSZ;rintro k ⟨F,inr⟩ W ⟨q0,hW,lxW,lyW,kk,I,As,hkk,gv,gw,hR,hS,hP,exW,eyW,p11,p12⟩;simp only at q0 hP p11 p12;subst q0;rw[ex] at exW;rw[ey] at eyW;have⟨p1,p2,p4,p5,p8,p9,p10⟩:=hP;have sW:=s1.trans hW;have hxaW:=hxa.same sW;refine fC (du p9 p12 @aC @aB (dC exW) hxaW.len @Ah ?_);by_cases hkl:kk<(b8 g i).next.length;rotate_left
   ·refine aM (by simp only[↓sU,sD,rE,↓reduceIte,rA,Aa (show ¬ (kk:Int)<(((b8 g i).next.length:Nat):Int) by omega)]) (bJ ?_);refine ae ?_;have hk0:k=0:=by omega
    subst hk0;exact .inl ⟨rfl,hW,lxW,lyW,kk,I,As,hkk,gv,gw,hR,hS,(by simp only[↓sU,sD,rE,↓reduceIte,rA,mA,p1,p2,p4,p5,p8,p9,p10]),by rw[exW,ex],by rw[eyW,ey],(ah p11),(ah p12)⟩
   refine aN (by simp only[↓sU,sD,rE,↓reduceIte,rA,Ac (show(kk:Int)<(((b8 g i).next.length:Nat):Int) by omega)]) (aI ?_);try refine ae ?_
   have hmW:=hm.same sW;have hcm:(b8 g i).next.getD kk 0∈(b8 g i).next:=by rw[Ad,Ab hkl];exact Bo _
   have⟨hc0,hcN⟩:=hcr _ hcm;have hiac:=hxaW.cp hkl;have hlac:=hxaW.ld hkl;have⟨b1,o1,hp1,lb1⟩:=bI.place hxaW hkl;rw[hp1] at hiac hlac;have hnc:=pH (k:=.i64) hc0;have hcl:((b8 g i).next.getD kk 0).toNat<m.length:=by rw[M.len];omega
   have hiam:=hmW.cp hcl;have hlam:=hmW.ld hcl;have⟨b2,o2,hp2,lb2⟩:=bI.place hmW hcl;rw[hp2] at hiam hlam;have hyaW:=hya.same sW;have hywW:=hyw.same sW;have hypW:=hyp.same sW;have sxa:=bI.self hxa;have smv:=bI.self hm;have w2:IntKind.i64.wrap ((kk:Int)+1)=((kk+1:Nat):Int):=by have:=G.nxt i hlt;rw[wrap_i64 ar ar];omega
   have hzz:mO (b8 g (fG m i)).next 0 (m.getD ((b8 g i).next.getD kk 0).toNat 0)=jN g m i kk:=rfl;refine aA (aK (aA (gS (fun _=>False) ?_)));intro W1 w1';simp only[↓sU,sD,rE,↓reduceIte,rA,p1,p9,p10,p12,aC,aQ,aB,ldN eyW,dC exW,lxW,lyW,Ak,sy,sxa,aH,hiac,hlac,lb1,hnc,hiam,hlam,lb2];refine cU rfl ?_;refine ae ?_;refine aW (aI2 H ⟨ya,yw,yp,rfl,hyaW.same w1',hywW.same w1',hypW.same w1'⟩ (by have:=G.nxt _ htoN;omega)) ?_;rintro _ W2 ⟨rfl,hW2⟩;refine⟨hW2,?_⟩;rw[hzz];have sWW:=w1'.trans hW2;have sS2:=hW.trans sWW;have sW2:=s1.trans sS2;have exV:=(sWW.2 _ lxW).trans exW;have eyV:=(sWW.2 _ lyW).trans eyW;have gvV:=gv.step sWW;have gwV:=gw.step sWW;have hRV:=hR.same sWW;have lxV:X.nx+13<W2.nx:=Ae lxW sWW.1;have lyV:X.nx+14<W2.nx:=Ae lyW sWW.1;have hxwV:=hxw.same sW2;have hywV:=hyw.same sW2;clear hzz gv gw hR exW eyW lxW lyW hiac hlac hiam hlam hnc;generalize hzd:jN g m i kk=z at *;refine aA (aX (Q:=fun o A' V=>(o= .normal/\A'.inr=false/\V=⟨W2.h,W2.nx+35⟩/\mA A'.F S.nx (X.nx+13) (X.nx+14) mv v w i/\aD 11 A'.F= .bool kn/\aD 12 A'.F= .int .i64 (kk:Int)/\aD 13 A'.F= .int .i64 z/\0<=z/\aAO g m i kk/\((b8 g i).kind=2->kn=true->(As.getD (b8 g i).info.toNat []).getD kk 0=z))\/(o= .ret/\aEg S1 g m A' V)) (aA (gD ?_)) ?_)
   ·by_cases c1:z<0
    ·refine dm (Ac c1) ?_;refine aN (af) ?_;refine bO (ae ?_);refine aP ?_;refine .inr ⟨rfl,sS2.trans (Same.nx _ _),aMS hlt hkl (by rw[hzd];omega),?_⟩;simp only[↓sU,sD,rE,↓reduceIte,rA]
    have hz0:0<=z:=Int.not_lt.1 c1;have hnz:=pH (k:=.i64) hz0;have hzl:z.toNat<(b8 g (fG m i)).next.length:=by rw[<-hzd];exact aJm (by rw[hzd];exact hz0)
    by_cases k1:(b8 g i).kind=1
    ·have k2:(b8 g (fG m i)).kind=1:=by rw[<-hL.1];exact k1
     have l1:kk<(b8 g i).weights.length:=by rw[G.wts i hlt k1];exact hkl
     have l2:z.toNat<(b8 g (fG m i)).weights.length:=by rw[G.wts _ htoN k2];exact hzl
     have i1:=hxwV.cp l1;have i2:=hxwV.ld l1;have i3:=hywV.cp l2;have i4:=hywV.ld l2;have sxw:=bI.self hxw;have syw:=bI.self hyw;have hkn0:kn=false:=hkf ar;subst hkn0;by_cases c2:(b8 g i).weights.getD kk 0=(b8 g (fG m i)).weights.getD z.toNat 0
     ·simp only[↓sU,sD,rE,↓reduceIte,rA,Aa c1,p9,p10,p11,p12,aC,aQ,aB,eK exV,dF exV,dF eyV,Ac k1,sxw,syw,aH,hnz,i1,i2,i3,i4,Aa (show ¬ (b8 g i).weights.getD kk 0≠(b8 g (fG m i)).weights.getD z.toNat 0 from fun h=>h c2)];refine aM (af) (aI ?_);refine .inl ⟨rfl,rfl,rfl,?_,?_,?_,?_,Int.not_lt.1 c1,fun _=>by rw[hzd];exact c2,fun h=>ar⟩
      ·simp only[↓sU,sD,rE,↓reduceIte,rA,mA,p1,p2,p4,p5,p8,p9,p10]
      ·simp only[↓sU,sD,rE,↓reduceIte,rA,p11]
      ·simp only[↓sU,sD,rE,↓reduceIte,rA,p12]
      ·simp only[↓sU,sD,rE,↓reduceIte,rA]
     ·simp only[↓sU,sD,rE,↓reduceIte,rA,Aa c1,p9,p10,p11,p12,aC,aQ,aB,eK exV,dF exV,dF eyV,Ac k1,sxw,syw,aH,hnz,i1,i2,i3,i4,Ac (show(b8 g i).weights.getD kk 0≠(b8 g (fG m i)).weights.getD z.toNat 0 from c2)];refine aN (af) ?_;refine bO (ae ?_);refine aP ?_;refine .inr ⟨rfl,sS2.trans (Same.nx _ _),aG1 hlt hkl (fun h=>c2 (by have:=h k1;rw[hzd] at this;exact this)),?_⟩;simp only[↓sU,sD,rE,↓reduceIte,rA]
    have hW0:aAO g m i kk:=fun h=>absurd h k1;cases kn with
    | false=>
     refine dw (Aa c1) p9 p11 @aC @aQ @aB (eK exV) (Aa k1) ?_;refine aM (af) (aI ?_);refine .inl ⟨rfl,rfl,rfl,?_,?_,?_,?_,Int.not_lt.1 c1,hW0,fun _=>trivial⟩
     ·simp only[↓sU,sD,rE,↓reduceIte,rA,mA,p1,p2,p4,p5,p8,p9,p10]
     ·simp only[↓sU,sD,rE,↓reduceIte,rA,p11]
     ·simp only[↓sU,sD,rE,↓reduceIte,rA,p12]
     ·simp only[↓sU,sD,rE,↓reduceIte,rA]
    | true=>
     have hk:(b8 g i).kind=2:=Decidable.byContradiction fun h=>by have:=hkf h;cases this
     have⟨a1,a2,a3⟩:=G.inf i hlt hk;have hni:=pH (k:=.i64) a1;have hs:(b8 g i).info.toNat<g.bj.length:=by omega
     have hsA:(b8 g i).info.toNat<As.length:=by rw[hS.la];exact hs
     have hls:=hS.ls _ hs;rw[show(((b8 g i).info.toNat:Nat):Int)=(b8 g i).info by omega,a3] at hls;rcases gwV with⟨_,h0',_⟩ | ⟨wb,hw,hwb0,hwb1,hwb2,hwb3⟩
     ·rw[h0'] at hs;exact absurd hs (Bm _)
     have hia:=dR (b:=wb) (o:=true) hs;have hld:=dI hwb2 (hRV.cl _ hsA);have hb2:=(hRV.bl _ hsA).2.2;have hkA:kk<(As.getD (b8 g i).info.toNat []).length:=by omega
     have hia2:=dR (b:=bs (b8 g i).info.toNat) (o:=false) hkA;have hld2:=uI hb2 hkA;have srow:cE (sN (bs (b8 g i).info.toNat) (As.getD (b8 g i).info.toNat [])) (sN (bs (b8 g i).info.toNat) (As.getD (b8 g i).info.toNat []))=true:=nH ..;unfold sN at hld srow;by_cases c3:(As.getD (b8 g i).info.toNat []).getD kk 0=z
     ·simp only[↓sU,sD,rE,↓reduceIte,rA,Aa c1,p5,p9,p10,p11,p12,aC,aQ,aB,eK exV,cV exV,Aa k1,hw,hni,hia,hld,srow,aH,hia2,hld2,Aa (show ¬ (As.getD (b8 g i).info.toNat []).getD kk 0≠z from fun h=>h c3)];refine aM (af) (aI ?_);refine .inl ⟨rfl,rfl,rfl,?_,?_,?_,?_,Int.not_lt.1 c1,hW0,fun _=>c3⟩
      ·simp only[↓sU,sD,rE,↓reduceIte,rA,mA,p1,p2,p4,p5,p8,p9,p10,hw]
      ·simp only[↓sU,sD,rE,↓reduceIte,rA,p11]
      ·simp only[↓sU,sD,rE,↓reduceIte,rA,p12]
      ·simp only[↓sU,sD,rE,↓reduceIte,rA]
     ·simp only[↓sU,sD,rE,↓reduceIte,rA,Aa c1,p5,p9,p10,p11,p12,aC,aQ,aB,eK exV,cV exV,Aa k1,hw,hni,hia,hld,srow,aH,hia2,hld2,Ac (show(As.getD (b8 g i).info.toNat []).getD kk 0≠z from c3)];have⟨j,j1,j2,j3⟩:=(hkn hk).1 rfl;refine aN (af) ?_;refine bO (ae ?_);refine aP ?_;refine .inr ⟨rfl,sS2.trans (Same.nx _ _),hS.no_act G hlt ar hk j2 j3 hkl (.inl j1) (by rw[hzd];exact c3),?_⟩;simp only[↓sU,sD,rE,↓reduceIte,rA]
   clear p1 p2 p4 p5 p8 p9 p10 p11 p12;rintro o ⟨F,inr⟩ V (⟨rfl,q0,rfl,hP,p11,p12,p13,hz0,hwe,hac⟩ | ⟨rfl,hf⟩);rotate_left
   ·refine ae ?_;exact .inr hf
   simp only at q0 hP p11 p12 p13;subst q0;have⟨p1,p2,p4,p5,p8,p9,p10⟩:=hP;try refine ae ?_
   refine aX (Q:=fun o A' V=>o= .normal/\A'.inr=false/\Same S1 V/\W2.nx<=V.nx/\(∃As',fY 1 S1 V v g.bj.length (aU I)/\fY 1 S1 V w g.bj.length cs/\zI S1 V bs cs As'/\Seen g m (fun j=>j<i\/j=i) (fun j k'=>(j<i\/(j=i/\k'<kk))\/(j=i/\k'=kk)) I As')/\mA A'.F S.nx (X.nx+13) (X.nx+14) mv v w i/\V.h.get (X.nx+13)=W2.h.get (X.nx+13)/\V.h.get (X.nx+14)=W2.h.get (X.nx+14)/\aD 11 A'.F= .bool kn/\aD 12 A'.F= .int .i64 (kk:Int)) (aA (aJ ?_)) ?_
   ·refine dq p9 @aC @aB (eK exV) ?_;by_cases hk:(b8 g i).kind=2;rotate_left
    ·refine aM (by simp only[↓sU,sD,rE,↓reduceIte,rA,Aa hk]) (aI ?_);refine⟨rfl,rfl,sS2.trans (Same.nx _ _),Ba _ _,⟨As,gvV.step (Same.nx _ _),gwV.step (Same.nx _ _),hRV.same (Same.nx _ _),hS.kid (by rw[hzd];exact hz0) hwe hk⟩,?_,rfl,rfl,?_,?_⟩
     ·simp only[↓sU,sD,rE,↓reduceIte,rA,mA,p1,p2,p4,p5,p8,p9,p10]
     ·simp only[↓sU,sD,rE,↓reduceIte,rA,p11]
     ·simp only[↓sU,sD,rE,↓reduceIte,rA,p12]
    refine aN (by simp only[↓sU,sD,rE,↓reduceIte,rA,Ac hk]) ?_;have⟨a1,a2,a3⟩:=G.inf i hlt hk;have hni:=pH (k:=.i64) a1;have hs:(b8 g i).info.toNat<g.bj.length:=by omega
    have hsA:(b8 g i).info.toNat<As.length:=by rw[hS.la];exact hs
    have hls:=hS.ls _ hs;rw[show(((b8 g i).info.toNat:Nat):Int)=(b8 g i).info by omega,a3] at hls;have hw':=gwV;rcases hw' with⟨_,h0',_⟩ | ⟨wb,hw,hwb0,hwb1,hwb2,hwb3⟩
    ·rw[h0'] at hs;exact absurd hs (Bm _)
    have hia:=dR (b:=wb) (o:=true) hs;have hld:=dI hwb2 (hRV.cl _ hsA);have hb2:=(hRV.bl _ hsA).2.2;have hb1:=(hRV.bl _ hsA).1;have hkA:kk<(As.getD (b8 g i).info.toNat []).length:=by omega
    have hia2:=dR (b:=bs (b8 g i).info.toNat) (o:=false) hkA;have hbX:=hbs _ hs;unfold sN at hld;refine aJ ?_;simp only[↓sU,sD,rE,↓reduceIte,rA,p5,p9,p12,p13,aC,aB,cV exV,hw,hni,hia,hld,aH,hia2];refine fI (fun call=>by refine dn @dS @cR ?_;exact sM (S:=⟨W2.h,W2.nx+35⟩) hb2 hkA) ?_;refine ae ?_;have hSk:=hS.kidM G hlt hkl (by rw[hzd];exact hz0) hwe hk fun j _ hj hkj e=>by rw[hzd];exact hac hk ((hkn hk).2 ⟨j,ar,hkj,e⟩)
    rw[hzd] at hSk;refine⟨(sS2.trans (Same.nx _ _)).put hb1 _,Ba _ _,⟨_,gvV.move (Ba _ _) (fun c hc=>?_),(by rw[<-hw];exact gwV.move (Ba _ _) (fun c hc=>by simp only;rw[di,if_neg (Bt (aLO hb2 (gwV.blk hc).2.2))])),hRV.put hsA (Ba _ _),hSk⟩,?_,?_,?_,?_,?_⟩
    ·simp only;rw[di,if_neg (Bt (aLO hb2 (gvV.blk hc).2.2))]
    ·simp only[↓sU,sD,rE,↓reduceIte,rA,mA,p1,p2,p4,p5,p8,p9,p10,hw]
    ·try simp only
     rw[di,if_neg ar]
    ·try simp only
     rw[di,if_neg ar]
    ·simp only[↓sU,sD,rE,↓reduceIte,rA,p11]
    ·simp only[↓sU,sD,rE,↓reduceIte,rA,p12]
   clear p1 p2 p4 p5 p8 p9 p10 p11 p12 p13;rintro o ⟨F,inr⟩ V ⟨rfl,q0,sSV,hVn,⟨As',gv',gw',hR',hS'⟩,hP,exV',eyV',p11,p12⟩;simp only at q0 hP p11 p12;subst q0;have⟨p1,p2,p4,p5,p8,p9,p10⟩:=hP;try refine ae ?_
   refine aJ (dn p12 w2 ?_);refine⟨k - 1,ar,rfl,sSV,ar,ar,kk+1,I,As',ar,gv',gw',hR',hS'.congr (fun _ _=>Iff.rfl) (fun j k' _ _ h=>ar),?_,?_,?_,?_,?_⟩
   ·simp only[↓sU,sD,rE,↓reduceIte,rA,mA,p1,p2,p4,p5,p8,p9,p10]
   ·rw[exV',exV,ex]
   ·rw[eyV',eyV,ey]
   ·simp only[↓sU,sD,rE,↓reduceIte,rA,p11]
   ·simp only[↓sU,sD,rE,↓reduceIte,rA]
  clear p1 p2 p4 p5 p8 p9 p10 p11 gvZ gwZ hRZ hSZ sSZ;rintro o ⟨F,inr⟩ V (⟨rfl,q0,hV,_,_,kk,I2,As2,hkk,gv2,gw2,hR2,hS2,hP,_,_,p11,p12⟩ | ⟨rfl,hf⟩);rotate_left
  ·refine ae ?_;exact .inr hf
  simp only at q0 hP;subst q0;have⟨p1,p2,p4,p5,p8,p9,p10⟩:=hP;try refine ae ?_
  refine aJ (dn p8 w1 ?_);refine⟨k - 1,ar,rfl,hV,i+1,I2,As2,ar,gv2,gw2,hR2,hS2.congr (fun j _=>ar) (fun j k' _ hk' h=>?_),by refine⟨?_,?_,?_,?_,?_⟩<;>simp only[↓sU,sD,rE,↓reduceIte,rA,p1,p2,p4,p5]⟩;rcases Cx j i with h1 | h1
  ·exact .inl h1
  ·have e:j=i:=by omega
   subst e;exact .inr ⟨rfl,ar⟩
 rintro o ⟨F,inr⟩ Y (⟨rfl,q0,hY,i,I,As,hik,gv',gw',hR',hS,p1,p2,p4,p5,p8⟩ | ⟨rfl,hf⟩);rotate_left
 ·have⟨h1,h2,h3,h4,h5⟩:=hf;refine dp h3 h4 h5 ?_;exact⟨s1.trans h1,_,_,false,rfl,⟨fun h=>(by cases h),fun a=>absurd a h2⟩,fun h=>by cases h⟩
 simp only at q0 p4 p5;subst q0
 replace hS:Seen g m (fun _=>True) (fun _ _=>True) I As:=hS.congr (fun j hj=>⟨fun _=>trivial,fun _=>ar⟩) (fun j _ hj _ _=>ar)
 clear p8 hik hX gv gw hR;try refine ae ?_
 refine aA (aX (Q:=fun o A' Z=>(o= .normal/\aQI Y v w I g.bj.length 0 A' Z)\/(o= .ret/\aEg Y g m A' Z)) (aA (aJ ?_)) ?_)
 ·refine ae ?_;refine aK (bH (aQI Y v w I g.bj.length) ?_ g.bj.length _ _ ⟨rfl,dk _,0,ar,fun a b _ ha=>ar,by refine⟨?_,?_,?_⟩<;>simp only[↓sU,sD,rE,↓reduceIte,rA,p4,p5]⟩);clear p4 p5;rintro k ⟨F,inr⟩ Z ⟨q0,hZ,i,hik,hd,p4,p5,p14⟩;simp only at q0 p4 p5 p14;subst q0;have hlen:=gv'.len;refine fC (dp p4 p14 hlen ?_);by_cases hlt:i<g.bj.length;rotate_left
  ·refine aM (by simp only[↓sU,sD,rE,↓reduceIte,rA,Aa (show ¬ (i:Int)<(g.bj.length:Int) by omega)]) (bJ ?_);refine ae ?_;have hk0:k=0:=by omega
   subst hk0;exact .inl ⟨rfl,hZ,i,hik,hd,by refine⟨?_,?_,?_⟩<;>simp only[↓sU,sD,rE,↓reduceIte,rA,p4,p5,p14]⟩
  refine aN (by simp only[↓sU,sD,rE,↓reduceIte,rA,Ac (show(i:Int)<(g.bj.length:Int) by omega)]) (aI ?_);try refine ae ?_
  have w1:=dh i
  refine aA (aK (aA (aJ ?_)));refine ae ?_;refine aX (Q:=fun o A' V=>(o= .normal/\aQS Z v w I i 0 A' V)\/(o= .ret/\aEg Y g m A' V)) (aK (bH (aQS Z v w I i) ?_ i _ _ ⟨rfl,dk _,0,ar,fun b hb=>ar,by refine⟨?_,?_,?_,?_⟩<;>simp only[↓sU,sD,rE,↓reduceIte,rA,p4,p5,p14]⟩)) ?_
  ·clear p4 p5 p14;rintro k' ⟨F,inr⟩ V ⟨q0,hV,l,hlk,hd',p4,p5,p14,p15⟩;simp only at q0 p4 p5 p14 p15;subst q0;refine fC (dn p14 p15 ?_);by_cases hl:l<i;rotate_left
   ·refine aM (by simp only[↓sU,sD,rE,↓reduceIte,rA,Aa (show ¬ (l:Int)<(i:Int) by omega)]) (bJ ?_);refine ae ?_;have hk0:k'=0:=by omega
    subst hk0;exact .inl ⟨rfl,hV,l,hlk,hd',by refine⟨?_,?_,?_,?_⟩<;>simp only[↓sU,sD,rE,↓reduceIte,rA,p4,p5,p14,p15]⟩
   refine aN (by simp only[↓sU,sD,rE,↓reduceIte,rA,Ac (show(l:Int)<(i:Int) by omega)]) (aI ?_);try refine ae ?_
   have gvV:=gv'.step (hZ.trans hV);have w2:=dh l
   rcases gvV with⟨_,h0',_⟩ | ⟨vb,hv,_,_,hvb2,_⟩
   ·rw[h0'] at hlt;exact absurd hlt (Bm _)
   have ll:l<g.bj.length:=by omega
   have hi1:=dR (b:=vb) (o:=true) hlt;have hi2:=dR (b:=vb) (o:=true) ll;have hl1:=uI hvb2 (show i<I.length by rw[hS.li];exact hlt);have hl2:=uI hvb2 (show l<I.length by rw[hS.li];exact ll);refine aA (aK (aA (gD ?_)));simp only[↓sU,sD,rE,↓reduceIte,rA,p4,p14,p15,hv,aH,hi1,hi2,hl1,hl2];by_cases he:I.getD i 0=I.getD l 0
   ·refine aN (by simp only[↓sU,sD,rE,↓reduceIte,rA,Ac he]) ?_;refine bO (ae ?_);refine aP ?_;refine .inr ⟨rfl,(hZ.trans hV).trans (Same.nx _ _),hS.no_inj G hlt ll ar he,?_⟩;simp only[↓sU,sD,rE,↓reduceIte,rA]
   ·refine aM (by simp only[↓sU,sD,rE,↓reduceIte,rA,Aa he]) (aI ?_);try refine ae ?_
    refine aJ (dn p15 w2 ?_);refine⟨k' - 1,ar,rfl,hV.trans (Same.nx _ _),l+1,ar,fun b hb=>?_,by refine⟨?_,?_,?_,?_⟩<;>simp only[↓sU,sD,rE,↓reduceIte,rA,p4,hv,p5,p14]⟩;by_cases hbl:b=l
    ·rw[hbl];exact he
    ·exact hd' b ar
  clear p4 p5 p14;rintro o ⟨F,inr⟩ V (⟨rfl,q0,hV,l,hlk,hd',p4,p5,p14,p15⟩ | ⟨rfl,hf⟩);rotate_left
  ·refine ae ?_;exact .inr hf
  simp only at q0 p4 p5 p14;subst q0;try refine ae ?_
  refine aJ (dn p14 w1 ?_);refine⟨k - 1,ar,rfl,hZ.trans hV,i+1,ar,fun a b hb ha=>?_,by refine⟨?_,?_,?_⟩<;>simp only[↓sU,sD,rE,↓reduceIte,rA,p4,p5]⟩;by_cases hai:a=i
  ·rw[hai];exact hd' b ar
  ·exact hd a b hb ar
 clear p4 p5;rintro o ⟨F,inr⟩ Z (⟨rfl,q0,hZ,i,hik,hd,p4,p5,p14⟩ | ⟨rfl,hf⟩);rotate_left
 ·have⟨h1,h2,h3,h4,h5⟩:=hf;refine dp h3 h4 h5 ?_;exact⟨s1.trans (hY.trans h1),_,_,false,rfl,⟨fun h=>(by cases h),fun a=>absurd a h2⟩,fun h=>by cases h⟩
 simp only at q0 p4 p5;subst q0;try refine ae ?_
 refine bO (dn p4 p5 ?_);refine aP (ae ?_);have hi0:i=g.bj.length:=by omega
 subst hi0;have hA:=hS.auto G h0 (hS.inj G hd);refine⟨s1.trans (hY.trans hZ),v,w,true,rfl,⟨fun _=>hA,fun _=>rfl⟩,fun _=>⟨?_,cs,bs,(gw'.step hZ).low s1.1,?_⟩⟩
 ·rw[<-hS.de G];exact(gv'.step hZ).low s1.1
 ·rw[<-hS.df G];exact(hR'.same hZ).low s1.1
theorem aL4{S:St}{nv iv mv:AV}{g:aS}{m:ba}(H:Has fns)(hn:aE 6 bX S nv g.bh)(hi:aE 2 bP S iv g.bj)(hm:bI .i64 S mv m):aJj fns S nv iv mv g m (iR g m) (aJq g m):=fun h0 h1 h2 _ S0 hS0=>
 xR H (aE.same (E:=bX) bL hn hS0) (aE.same (E:=bP) bK hi hS0) (hm.same hS0) (gF h0) ⟨h1,h2⟩
structure iP(g:aS)(m:ba)(n e:Nat)(I F:ba)(A:a9):Prop where
 s:Seen g m (fun j=>j<n) (fun j k=>(b8 g j).next.getD k 0<(e:Int)) I A
 lf:F.length=g.bj.length
 fv:∀j,j<g.bh.length->j<n->(b8 g j).kind=2->F.getD (b8 g (fG m j)).info.toNat 0=(b8 g j).info
 fw:∀t,t<g.bj.length->0<=F.getD t 0->∃j,j<g.bh.length/\j<n/\(b8 g j).kind=2/\(b8 g (fG m j)).info=(t:Int)
 aw:∀s,s<g.bj.length->∀k,k<(A.getD s []).length->0<=(A.getD s []).getD k 0->∃j,j<g.bh.length/\(b8 g j).kind=2/\(b8 g j).info=(s:Int)/\k<(b8 g j).next.length/\(b8 g j).next.getD k 0<(e:Int)
section
variable {g:aS}{m:ba}{I F:ba}{A:a9}{n e:Nat}
theorem iP.node(h:iP g m n e I F A)(hl:aCH g m n)(hk:(b8 g n).kind≠2):iP g m (n+1) e I F A:=
 ⟨(h.s.node hl hk).congr (fun j _=>ar) (fun _ _ _ _ h=>h),h.lf,fun j hj hn hkj=>by
  by_cases e:j=n
  ·rw[e] at hkj;exact absurd hkj hk
  ·exact h.fv j hj ar hkj,fun t ht h0=>by have⟨j,a,b,c⟩:=h.fw t ht h0;exact⟨j,a,ar,c⟩,h.aw⟩
theorem iP.nodeM(G:dE g)(M:aCJ g m)(h:iP g m n e I F A)(hi:n<g.bh.length)(hl:aCH g m n)(hk:(b8 g n).kind=2)(hI:0<=I.getD (b8 g n).info.toNat 0->I.getD (b8 g n).info.toNat 0=(b8 g (fG m n)).info)(hF:0<=F.getD (b8 g (fG m n)).info.toNat 0->F.getD (b8 g (fG m n)).info.toNat 0=(b8 g n).info):
  iP g m (n+1) e (I.set (b8 g n).info.toNat (b8 g (fG m n)).info) (F.set (b8 g (fG m n)).info.toNat (b8 g n).info) A:=by
 have⟨b1,b2⟩:=qY G M hi hl hk;have hlt:(b8 g (fG m n)).info.toNat<F.length:=by rw[h.lf];omega
 refine⟨(h.s.nodeM G M hi hl hk hI).congr (fun j _=>ar) (fun _ _ _ _ h=>h),by rw[Aq];exact h.lf,fun j hj hn hkj=>?_,fun t ht h0=>?_,h.aw⟩
 ·rw[nD hlt];by_cases e:j=n
  ·rw[e,if_pos rfl]
  ·have hv:=h.fv j hj ar hkj;split
   ·rename_i e2;have:=(qY G M hj (h.s.lk j hj ar) hkj);have e3:(b8 g (fG m n)).info=(b8 g (fG m j)).info:=by omega
    rw[<-e3] at hv;rw[<-hF (by rw[hv];exact(G.inf j hj hkj).1),hv]
   ·exact hv
 ·rw[nD hlt] at h0;split at h0
  ·exact⟨n,hi,ar,hk,ar⟩
  ·have⟨j,a,b,c⟩:=h.fw t ht h0;exact⟨j,a,ar,c⟩
theorem dE.kids(G:dE g):∀j,j<g.bh.length->∀k,k<(b8 g j).next.length->(j:Int)<(b8 g j).next.getD k 0/\(b8 g j).next.getD k 0<g.bh.length:=fun j hj k hk=>by
 have⟨T,_,hTl,hW⟩:=G.walk;have hm:(b8 g j).next.getD k 0∈(b8 g j).next:=by rw[Ad,Ab hk];exact Bo _
 have:=hW.cf j ar _ (by rw[An,jC];exact hm);omega
theorem dE.only(G:dE g){j k j' k':Nat}(hj:j<g.bh.length)(hk:k<(b8 g j).next.length)(hj':j'<g.bh.length)(hk':k'<(b8 g j').next.length)(e:(b8 g j).next.getD k 0=(b8 g j').next.getD k' 0):j=j'/\k=k':=by
 have⟨T,_,hTl,hW⟩:=G.walk;have mem:∀ {j k:Nat},k<(b8 g j).next.length->(b8 g j).next.getD k 0∈(b8 g j).next:=fun {j k} hk=>by rw[Ad,Ab hk];exact Bo _
 have h1:=(hW.cf j ar _ (by rw[An,jC];exact mem hk)).2.2;have h2:=(hW.cf j' ar _ (by rw[An,jC];exact mem hk')).2.2;rw[e,h2] at h1;have hjj:j=j':=by have:=Bp h1;omega
 subst hjj;have hinc:=hW.inc j ar;rw[An,jC] at hinc;refine⟨rfl,?_⟩;rw[Ad,Ad,Ab hk,Ab hk'] at e;have e:(b8 g j).next[k]=(b8 g j).next[k']:=e;rcases Dl k k' with h | h | h
 ·have:=List.pairwise_iff_getElem.1 hinc k k' hk hk' h;omega
 ·exact h
 ·have:=List.pairwise_iff_getElem.1 hinc k' k hk' hk h;omega
theorem iP.kid(G:dE g)(h:iP g m n n I F A){i k:Nat}(hi:i<g.bh.length)(hkl:k<(b8 g i).next.length)(hc:(b8 g i).next.getD k 0=(n:Int))(h0:0<=jN g m i k)(hw:aAO g m i k)(hk:(b8 g i).kind≠2):iP g m n (n+1) I F A:=
 ⟨(h.s.kid h0 hw hk).congr (fun _ _=>Iff.rfl) (fun j k' hj hk' h=>by
  by_cases e:(b8 g j).next.getD k' 0=(n:Int)
  ·exact .inr (G.only hj hk' hi hkl (by rw[e,hc]))
  ·exact .inl ar),h.lf,h.fv,h.fw,fun s hs k hk h0=>by have⟨j,a,b,c,d,e⟩:=h.aw s hs k hk h0;exact⟨j,a,b,c,d,ar⟩⟩
theorem iP.kidM(G:dE g)(h:iP g m n n I F A){i k:Nat}(hi:i<g.bh.length)(hkl:k<(b8 g i).next.length)(hc:(b8 g i).next.getD k 0=(n:Int))(h0:0<=jN g m i k)(hw:aAO g m i k)(hk:(b8 g i).kind=2)
  (hA:0<=(A.getD (b8 g i).info.toNat []).getD k 0->(A.getD (b8 g i).info.toNat []).getD k 0=jN g m i k):iP g m n (n+1) I F (A.set (b8 g i).info.toNat ((A.getD (b8 g i).info.toNat []).set k (jN g m i k))):=by
 have⟨a1,a2,a3⟩:=G.inf i hi hk;have hlt:(b8 g i).info.toNat<A.length:=by rw[h.s.la];omega
 have hls:=h.s.ls (b8 g i).info.toNat ar;rw[show(((b8 g i).info.toNat:Nat):Int)=(b8 g i).info by omega,a3] at hls;refine⟨(h.s.kidM G hi hkl h0 hw hk fun j hj hWj hkj e=>?_).congr (fun _ _=>Iff.rfl) (fun j k' hj hk' h=>?_),h.lf,h.fv,h.fw,fun s hs k' hk' h0'=>?_⟩
 ·have b3:=(G.inf j hj hkj).2.2;rw[e,a3] at b3;have⟨c1,_,c3⟩:=h.s.kd j k hj ar hWj;have:=c3 hkj;rw[e] at this;exact hA (by rw[this];exact c1)
 ·by_cases e:(b8 g j).next.getD k' 0=(n:Int)
  ·exact .inr (G.only hj hk' hi hkl (by rw[e,hc]))
  ·exact .inl ar
 ·have hold:k'<(A.getD s []).length->0<=(A.getD s []).getD k' 0->∃j,j<g.bh.length/\(b8 g j).kind=2/\(b8 g j).info=(s:Int)/\k'<(b8 g j).next.length/\(b8 g j).next.getD k' 0<((n+1:Nat):Int):=fun h1 h2=>by
   have⟨j,a,b,c,d,e⟩:=h.aw s hs k' h1 h2;exact⟨j,a,b,c,d,ar⟩
  rw[uP hlt] at hk' h0';split at hk'
  ·rename_i e;rw[if_pos e] at h0';rw[Aq] at hk';rw[nD ar] at h0';split at h0'
   ·rename_i e2;subst e2;exact⟨i,hi,hk,by clear hold hA h0' hk' h;omega,hkl,by rw[hc];exact Int.ofNat_lt.2 (Dj n)⟩
   ·rw[e] at hk' h0';exact hold hk' h0'
  ·rename_i e;rw[if_neg e] at h0';exact hold hk' h0'
theorem iP.no_from(h:iP g m n e I F A)(G:dE g)(M:aCJ g m){i:Nat}(hi:i<g.bh.length)(hl:aCH g m i)(hk:(b8 g i).kind=2)(h0:0<=F.getD (b8 g (fG m i)).info.toNat 0)(h1:F.getD (b8 g (fG m i)).info.toNat 0≠(b8 g i).info):¬iR g m:=fun a=>by
 have⟨b1,b2⟩:=qY G M hi hl hk;have⟨j,c1,c2,c3,c4⟩:=h.fw _ ar h0;have e:(b8 g (fG m j)).info=(b8 g (fG m i)).info:=by omega
 have:=h.fv j c1 c2 c3;rw[e] at this;exact h1 (this.trans (a.inj j i c1 hi c3 hk e))
theorem iP.no_act(h:iP g m n e I F A)(G:dE g){i k:Nat}(hi:i<g.bh.length)(hk:(b8 g i).kind=2)(hkl:k<(b8 g i).next.length)(h0:0<=(A.getD (b8 g i).info.toNat []).getD k 0)(h1:(A.getD (b8 g i).info.toNat []).getD k 0≠jN g m i k):¬iR g m:=by
 have⟨a1,a2,a3⟩:=G.inf i hi hk;have hls:=h.s.ls (b8 g i).info.toNat ar;rw[show(((b8 g i).info.toNat:Nat):Int)=(b8 g i).info by omega,a3] at hls;have⟨j,b1,b2,b3,b4,b5⟩:=h.aw (b8 g i).info.toNat ar k ar h0;exact h.s.no_act G hi b1 hk b2 ar hkl b5 h1
def aAS(g:aS):a9:=g.bj.map fun x=>List.replicate x.bt.toNat (-1)
theorem iP.start(G:dE g)(m:ba):iP g m 0 1 (List.replicate g.bj.length (-1)) (List.replicate g.bj.length (-1)) (aAS g):=by
 have hrep:∀ (n t:Nat),t<n->¬0<=(List.replicate n (-1:Int)).getD t 0:=fun n t ht h0=>by
  rw[Ad,Ch,if_pos ht] at h0;exact absurd h0 ay
 have hun:∀s,s<g.bj.length->(aAS g).getD s []=List.replicate (cd g (s:Int)).bt.toNat (-1):=fun s hs=>by
  unfold aAS cd;rw[Ad,Am,Ad,Az,Ab hs];rfl
 refine⟨⟨Au ..,by unfold aAS;rw[Aj],fun s hs=>?_,fun j _ hj=>ar,fun s hs h0=>absurd h0 (hrep _ _ hs),fun j _ hj=>ar,fun j k hj hk hw=>?_⟩,Au ..,fun j _ hj=>ar,fun t ht h0=>absurd h0 (hrep _ _ ht),fun s hs k hk h0=>?_⟩
 ·have⟨f1,f2,f3⟩:=G.fst s hs;have hac:=(G.inf _ f1 f2).2.2;rw[f3] at hac;rw[hun s hs,Au];omega
 ·have:=(G.kids j hj k hk).1;omega
 ·rw[hun s hs] at hk h0;rw[Au] at hk;exact absurd h0 (hrep _ _ hk)
theorem iP.full(h:iP g m g.bh.length g.bh.length I F A)(G:dE g)(M:aCJ g m)(root:m.getD 0 0=0):iR g m/\I=de g m/\A=df g m:=by
 have hS:Seen g m (fun _=>True) (fun _ _=>True) I A:=h.s.congr (fun j hj=>⟨fun _=>trivial,fun _=>hj⟩) fun j k hj hk _=>(G.kids j hj k hk).2;refine⟨hS.auto G root fun i j hi hj hki hkj e=>?_,hS.de G,hS.df G⟩;rw[<-h.fv i hi hi hki,<-h.fv j hj hj hkj,e]
end
theorem aLd{g:aS}{m:ba}{T:List dM}(hW:WF (eB g) 0 (-1) T)(hT:T.length=g.bh.length)(M:aCJ g m){i k:Nat}(hi:i<g.bh.length)(hv:((b8 g i).next.getD k 0).toNat<g.bh.length):
  ((T.map (·.1)).getD (fG m ((b8 g i).next.getD k 0).toNat) 0=((fG m i:Nat):Int)->0<=jN g m i k/\jN g m i k=(lO g).getD (fG m ((b8 g i).next.getD k 0).toNat) 0)/\((T.map (·.1)).getD (fG m ((b8 g i).next.getD k 0).toNat) 0≠((fG m i:Nat):Int)->¬0<=jN g m i k):=by
 have⟨hve,hvN⟩:=M.at hv;have hti:=(M.at hi).2;unfold jN;rw[hve];generalize fG m ((b8 g i).next.getD k 0).toNat=v at *;generalize fG m i=t at *;have hpar:(T.map (·.1)).getD v 0=(mF T v).getD 0:=by
  unfold mF;rw[Ad,Am]
 have hsome:∃p,mF T v=some p:=by
  unfold mF;rw[Ab (show v<T.length by omega)];exact⟨_,rfl⟩
 have⟨p,hp⟩:=hsome;rw[hpar,hp];constructor
 ·intro h;have h:p=(t:Int):=h;subst h;by_cases v0:v=0
  ·subst v0;rw[hW.root] at hp;have:=Bp hp;omega
  have⟨q,q1,q2,q3⟩:=hW.pf v ar ar;rw[hp] at q2;have hq:=Bp q2;have hqt:q=t:=by omega
  subst hqt;rw[An,An,jC] at q3;rcases sC (c:=((v:Nat):Int)) (l:=(b8 g q).next) (s:=0) with⟨h1,h2⟩ | ⟨j,h1,h2,_⟩
  ·exact absurd q3 h2
  ·have hpl:=aIz hW hT hti (k:=j) (c:=((v:Nat):Int)) (by rw[jC];exact h2);rw[Az] at hpl;rw[h1,hpl,An];exact⟨ar,rfl⟩
 ·intro h h0;have h:p≠(t:Int):=h;rcases sC (c:=((v:Nat):Int)) (l:=(b8 g t).next) (s:=0) with⟨h1,h2⟩ | ⟨j,h1,h2,_⟩
  ·rw[h1] at h0;exact absurd h0 ay
  ·have:=(hW.cf t ar _ (by rw[An,jC];exact Ar h2)).2.2;rw[show((v:Nat):Int).toNat - 0=v by omega,hp,An] at this;exact h (Bp this)
end Go.Ev.Gl
