import Derived.Test.YtdkehphobhnjoaaGl8
open Nat renaming reduceEqDiff -> rE, reduceAdd -> rA
set_option maxHeartbeats 0
set_option linter.unusedSimpArgs false
set_option linter.unusedVariables false
namespace Go.Ev.Gl
variable {fns:T dU}
theorem iQ.same{S S':St}{wb plb szb:Nat}{pv nv iv:AV}{g:bD}{R Z:bu}(h:iQ S wb plb szb pv nv iv g R Z)(hs:Same S S'):iQ S' wb plb szb pv nv iv g R Z:=
 ⟨h.w.same hs,(hs.2 _ h.bp).trans h.gp,(hs.2 _ h.bz).trans h.gz,h.lp,h.lz,Ae h.bp hs.1,Ae h.bz hs.1⟩
def aOU(fns:Ev.T dU)(S:St)(nv iv mv:AV)(g:bD)(m:bu)(ok:Prop)(P:St->St->AV->AV->Prop):Prop:=
 dB g=0->m.length=g.bk.length->nE m g.bk.length->¬aCO m->∀ (S0:St) (wb plb szb:Nat) (pv:AV) (T:List cK) (Z:bu),Same S S0->fJ g=some T->T.length=g.bk.length->bO .i64 S0 pv (T.map (·.1))->iQ S0 wb plb szb pv nv iv g (lC g) Z->
  gH fns (.fn 25 [] []) [.ptr wb 0,mv] S0 fun r S''=>Same S0 S''/\∃x y t,r= .tup [.agg [x,y],.bool t]/\(t=true↔ok)/\(t=true->P S0 S'' x y)
noncomputable def aFP(g:bD)(m:bu)(ok:Prop):Int:=if dB g≠0 then dB g else iF g.bk.length m ok
theorem aIp{S:St}{nv iv mv:AV}{g:bD}{m:bu}{ok:Prop}{P:St->St->AV->AV->Prop}(H:Has fns)(hP:∀ {S0 S1 S2:St} {x y:AV},P S0 S1 x y->S1.nx<=S2.nx->(∀c,S0.nx<=c->c<S1.nx->S2.h.get c=S1.h.get c)->P S0 S2 x y)(hn:aP 6 cI S nv g.bk)(hi:aP 2 cW S iv g.bn)(hm:bO .i64 S mv m)(hln:g.bk.length<=100000)(himg:aOU fns S nv iv mv g m ok P):
  gH fns (.fn 16 [] []) [.agg [.int .i64 g.bo,nv,iv],mv] S fun r S'=>r= .int .i64 (aFP g m ok)/\Same S S':=by
 refine cF H.f16 (by simp) ?_;refine af ?_;refine bQ ?_;refine dV (by refine af ?_;exact bL _) ?_;intro S1 s1 n1 c1;refine af ?_;refine bQ (cm (iT c1) ?_);refine bE (af ?_);refine aQ (xT H (aP.same (E:=cI) bT hn s1) (aP.same (E:=cW) cM hi s1) hln) ?_;rintro _ X ⟨hX,p,rfl,hok⟩;refine df @ex0 @ex1 ?_;refine fE ?_;simp only[↓sU,sD,rE,↓reduceIte,rA];unfold aFP;by_cases h0:dB g=0;rotate_left
 ·rw[if_pos h0];refine aM (fg (Ab (show dB g≠0 from h0))) ?_;refine bQ (af ?_);refine aR (af ?_);exact s1.trans hX
 rw[if_neg (fun h=>h h0)];refine aK (fg (Aa (show ¬dB g≠0 from fun h=>h h0))) (aH ?_);refine af ?_;obtain⟨wb,plb,szb,pv,T,Z,rfl,_,hT,hTl,hpv,hB⟩:=hok h0;have sX:=s1.trans hX;refine bQ (af ?_);refine bE (af ?_);refine aQ (tX (P:=P) (ok:=ok) H hP hB.w (aP.same (E:=cI) bT hn sX) (hm.same sX) hln fun h1 h2 h3 S' hS'=>himg h0 h1 h2 h3 S' wb plb szb pv T Z (sX.trans hS') hT hTl (hpv.same hS') (hB.same hS')) ?_;rintro _ Y ⟨hY,x,y,rfl,_⟩;refine df @ex0 @ex1 ?_;refine bQ (af ?_);refine aR (af ?_);exact sX.trans hY
theorem aBT{n:Nat}{m:bu}{ok:Prop}(h:iF n m ok=0):m.length=n/\nE m n/\¬aCO m/\ok:=by
 unfold iF at h;split at h
 ·exact absurd h bg
 ·rename_i h1;split at h
  ·exact absurd h bg
  ·rename_i h2;split at h
   ·exact absurd h bg
   ·rename_i h3;split at h
    ·rename_i h4;exact⟨Ee.1 h1,Classical.not_not.1 h2,h3,h4⟩
    ·exact absurd h bg
noncomputable def yC(g:bD)(a b:bu)(oka okb:Prop):Int:=if aFP g a oka≠0 then aFP g a oka else iF g.bk.length b okb
def aRp(S':St)(v:AV)(g:bD)(a b:bu)(e:Int):Prop:=(e≠0->v= .cb)/\(e=0->bO .i64 S' v (cA a b))
abbrev aIl(P:St->St->AV->AV->Prop):Prop:=∀ {S0 S1 S2:St} {x y:AV},P S0 S1 x y->S1.nx<=S2.nx->(∀c,S0.nx<=c->c<S1.nx->S2.h.get c=S1.h.get c)->P S0 S2 x y
theorem aFE{S:St}{nv iv av bv:AV}{g:bD}{a b:bu}{oka okb:Prop}{P P':St->St->AV->AV->Prop}(H:Has fns)(hP:aIl P)(hP':aIl P')(hn:aP 6 cI S nv g.bk)(hi:aP 2 cW S iv g.bn)(ha:bO .i64 S av a)(hb:bO .i64 S bv b)(hln:g.bk.length<=100000)(ia:aOU fns S nv iv av g a oka P)(ib:aOU fns S nv iv bv g b okb P'):
  gH fns (.fn 17 [] []) [.agg [.int .i64 g.bo,nv,iv],av,bv] S fun r S'=>Same S S'/\∃v,r= .tup [v,.int .i64 (yC g a b oka okb)]/\aRp S' v g a b (yC g a b oka okb):=by
 refine cF H.f17 (by simp) ?_;refine af ?_;refine bQ ?_;refine dV (by refine af ?_;exact bL _) ?_;intro S1 s1 n1 c1;refine af ?_;refine bQ (cm (iT c1) ?_);refine bE (af ?_);refine aQ (xT H (aP.same (E:=cI) bT hn s1) (aP.same (E:=cW) cM hi s1) hln) ?_;rintro _ X ⟨hX,p,rfl,hok⟩;have sX:=s1.trans hX;refine df @ex0 @ex1 ?_;refine fE (af ?_);by_cases h0:dB g=0;rotate_left
 ·have hE:yC g a b oka okb=dB g:=by unfold yC aFP;rw[if_pos h0,if_pos h0]
  rw[hE];refine aM (fg (Ab (show dB g≠0 from h0))) ?_;refine bQ (af ?_);refine aR (af ?_);exact⟨sX,_,rfl,fun _=>rfl,fun h=>absurd h h0⟩
 have hC:aFP g a oka=iF g.bk.length a oka:=by unfold aFP;rw[if_neg (fun h=>h h0)]
 refine aK (fg (Aa (show ¬dB g≠0 from fun h=>h h0))) (aH ?_);refine af ?_;obtain⟨wb,plb,szb,pv,T,Z,rfl,_,hT,hTl,hpv,hB⟩:=hok h0;have hnX:=aP.same (E:=cI) bT hn sX;refine fE (af ?_);refine bE (af ?_);refine aQ (tX (P:=P) (ok:=oka) H hP hB.w hnX (ha.same sX) hln fun h1 h2 h3 S' hS'=>ia h0 h1 h2 h3 S' wb plb szb pv T Z (sX.trans hS') hT hTl (hpv.same hS') (hB.same hS')) ?_;rintro _ Y ⟨hY,x,y,rfl,_⟩;have sY:=sX.trans hY;refine df @ex0 @ex1 ?_;refine bQ (af ?_);by_cases ha0:iF g.bk.length a oka=0;rotate_left
 ·have hE:yC g a b oka okb=iF g.bk.length a oka:=by unfold yC;rw[hC,if_pos ha0]
  rw[hE];refine aM (fg (Ab (show iF g.bk.length a oka≠0 from ha0))) ?_;refine bQ (af ?_);refine aR (af ?_);exact⟨sY,_,rfl,fun _=>rfl,fun h=>absurd h ha0⟩
 have hE:yC g a b oka okb=iF g.bk.length b okb:=by unfold yC;rw[hC,if_neg (fun h=>h ha0)]
 rw[hE];refine aK (fg (Aa (show ¬iF g.bk.length a oka≠0 from fun h=>h ha0))) (aH ?_);refine af ?_;refine fE (af ?_);refine bE (af ?_);refine aQ (tX (P:=P') (ok:=okb) H hP' (hB.same hY).w (aP.same (E:=cI) bT hn sY) (hb.same sY) hln fun h1 h2 h3 S' hS'=>ib h0 h1 h2 h3 S' wb plb szb pv T Z (sY.trans hS') hT hTl (hpv.same (hY.trans hS')) (hB.same (hY.trans hS'))) ?_;rintro _ W ⟨hW,x2,y2,rfl,_⟩;have sW:=sY.trans hW;refine df @ex0 @ex1 ?_;refine bQ (af ?_);by_cases hb0:iF g.bk.length b okb=0;rotate_left
 ·refine aM (fg (Ab (show iF g.bk.length b okb≠0 from hb0))) ?_;refine bQ (af ?_);refine aR (af ?_);exact⟨sW,_,rfl,fun _=>rfl,fun h=>absurd h hb0⟩
 refine aK (fg (Aa (show ¬iF g.bk.length b okb≠0 from fun h=>h hb0))) (aH ?_);refine af ?_;rw[hb0];refine bQ (af ?_);refine bE (af ?_);refine aQ (aEV H (ha.same sW) (hb.same sW) (by have:=(aBT ha0).1;omega) (by rw[(aBT hb0).1];exact(aBT ha0).2.1)) ?_;rintro v V ⟨hv,hV⟩;refine aR (af ?_);exact⟨sW.trans hV,_,rfl,fun h=>absurd rfl h,fun _=>hv.is⟩
def cd(g:bD)(i:Nat):cP:=g.bk.getD i ⟨0,0,0,[],[],[]⟩
def eR(m:bu)(i:Nat):Nat:=(m.getD i 0).toNat
def iM(g:bD)(m:bu)(i k:Nat):Int:=mA (cd g (eR m i)).next 0 (m.getD ((cd g i).next.getD k 0).toNat 0)
structure iB(g:bD)(m:bu):Prop where
 root:m.getD 0 0=0
 like:∀i,i<g.bk.length->(cd g i).kind=(cd g (eR m i)).kind/\(cd g i).next.length=(cd g (eR m i)).next.length/\(cd g i).pay=(cd g (eR m i)).pay/\(cd g i).player=(cd g (eR m i)).player
 kid:∀i k,i<g.bk.length->k<(cd g i).next.length->0<=iM g m i k
 weigh:∀i k,i<g.bk.length->k<(cd g i).next.length->(cd g i).kind=1->(cd g i).weights.getD k 0=(cd g (eR m i)).weights.getD (iM g m i k).toNat 0
 info:∀i j,i<g.bk.length->j<g.bk.length->(cd g i).kind=2->(cd g j).kind=2->(cd g i).info=(cd g j).info->(cd g (eR m i)).info=(cd g (eR m j)).info/\∀k,k<(cd g i).next.length->iM g m i k=iM g m j k
 inj:∀i j,i<g.bk.length->j<g.bk.length->(cd g i).kind=2->(cd g j).kind=2->(cd g (eR m i)).info=(cd g (eR m j)).info->(cd g i).info=(cd g j).info
def kS(g:bD)(s:Nat):Nat:=lF g.bk 0 s - 1
def cw(g:bD)(m:bu):bu:=(List.range g.bn.length).map fun s=>(cd g (eR m (kS g s))).info
def c8(g:bD)(m:bu):bt:=(List.range g.bn.length).map fun s=>(List.range (cd g (kS g s)).next.length).map fun k=>iM g m (kS g s) k
theorem aAb{g:bD}{i:Nat}{x:cP}(h:g.bk[i]? =some x):cd g i=x:=by unfold cd;rw[Ad,h];rfl
theorem eK{g:bD}{i:Nat}(h:i<g.bk.length):g.bk[i]? =some (cd g i):=by unfold cd;rw[Ad,Ac h];rfl
theorem gS(g:bD)(i:Nat):dN g i=(cd g i).next:=by
 unfold dN cd;rw[Ad];cases g.bk[i]? <;>rfl
theorem aEZ{i:Nat}:∀ {l:List cP} {s:Nat},lF l s i≠0->∃j x,l[j]? =some x/\lF l s i=s+j+1/\x.kind=2/\x.info=(i:Int)
 | [],s,h=>absurd rfl h
 | x::l,s,h=>by
  simp only[lF] at h ⊢;by_cases hx:x.kind=2/\x.info=(i:Int)
  ·rw[if_pos hx];exact⟨0,x,rfl,rfl,hx.1,hx.2⟩
  ·rw[if_neg hx] at h ⊢;have⟨j,y,h1,h2,h3,h4⟩:=aEZ h;exact⟨j+1,y,by rw[Cz];exact h1,by rw[h2];omega,h3,h4⟩
theorem aLX{ps:Int}{ni:Nat}{x:cP}(h:iC ps ni x=0)(hp:ps<=4):x.pay.length<=4:=by
 unfold iC at h;split at h
 ·split at h
  ·cases h
  ·rename_i hb;unfold nJ at hb;omega
 ·split at h
  ·split at h
   ·cases h
   ·rename_i hb;unfold vG at hb;omega
  ·split at h
   ·split at h
    ·cases h
    ·rename_i hb;unfold oB at hb;omega
   ·cases h
structure eY(g:bD):Prop where
 n1:0<g.bk.length
 n2:g.bk.length<=2000
 ni:g.bn.length<=200
 nxt:∀i,i<g.bk.length->(cd g i).next.length<=1000
 pay:∀i,i<g.bk.length->(cd g i).pay.length<=4
 wts:∀i,i<g.bk.length->(cd g i).kind=1->(cd g i).weights.length=(cd g i).next.length
 inf:∀i,i<g.bk.length->(cd g i).kind=2->0<=(cd g i).info/\(cd g i).info<g.bn.length/\(ce g (cd g i).info).ca=(((cd g i).next.length:Nat):Int)
 fst:∀s,s<g.bn.length->kS g s<g.bk.length/\(cd g (kS g s)).kind=2/\(cd g (kS g s)).info=(s:Int)
 walk:∃T,fJ g=some T/\T.length=g.bk.length/\WF (dN g) 0 (-1) T
theorem iR{g:bD}(h:dB g=0):eY g:=by
 unfold dB at h;split at h
 ·cases h
 rename_i hb;split at h
 ·rename_i h1;exact absurd h h1
 rename_i hN;have hN:=Ee.1 hN;cases hW:fJ g with
 | none=>rw[hW] at h;cases h
 | some T=>
  rw[hW] at h;simp only at h;split at h
  ·cases h
  rename_i hT;split at h
  ·cases h
  unfold wZ at h;split at h
  ·cases h
  rename_i hmis;split at h
  ·cases h
  rename_i hfst;unfold mQ at hb;have hmem:∀i,i<g.bk.length->cd g i∈g.bk:=fun i hi=>Bu (eK hi);refine⟨ay,ay,ay,fun i hi=>aBY (jP hN _ (hmem i hi)),fun i hi=>aLX (jP hN _ (hmem i hi)) ay,fun i hi hk=>?_,fun i hi hk=>?_,fun s hs=>?_,T,hW,ay,?_⟩
  ·have:=jP hN _ (hmem i hi);unfold iC at this;rw[if_pos hk] at this;split at this
   ·cases this
   ·rename_i hc;unfold nJ at hc;omega
  ·have⟨a,b⟩:=aBQ (jP hN _ (hmem i hi)) hk;refine⟨a,b,Decidable.byContradiction fun hne=>hmis ⟨_,hmem i hi,hk,fun hh=>hne hh.2⟩⟩
  ·have hne:lF g.bk 0 s≠0:=fun e=>hfst (by
    unfold fV;exact Dl.2 ⟨s,Fb.2 hs,by rw[e];rfl⟩)
   have⟨j,x,h1,h2,h3,h4⟩:=aEZ hne;have e:kS g s=j:=by unfold kS;omega
   rw[e,aAb h1];exact⟨(Aj.1 h1).1,h3,h4⟩
  ·unfold fJ at hW;exact lK hW
def aCp(g:bD)(m:bu)(i:Nat):Prop:=(cd g i).kind=(cd g (eR m i)).kind/\(cd g i).next.length=(cd g (eR m i)).next.length/\(cd g i).pay=(cd g (eR m i)).pay/\(cd g i).player=(cd g (eR m i)).player
def aA2(g:bD)(m:bu)(i k:Nat):Prop:=(cd g i).kind=1->(cd g i).weights.getD k 0=(cd g (eR m i)).weights.getD (iM g m i k).toNat 0
structure Seen(g:bD)(m:bu)(V:Nat->Prop)(W:Nat->Nat->Prop)(I:bu)(A:bt):Prop where
 li:I.length=g.bn.length
 la:A.length=g.bn.length
 ls:∀s,s<g.bn.length->(((A.getD s []).length:Nat):Int)=(ce g (s:Int)).ca
 iv:∀j,j<g.bk.length->V j->(cd g j).kind=2->I.getD (cd g j).info.toNat 0=(cd g (eR m j)).info
 iw:∀s,s<g.bn.length->0<=I.getD s 0->∃j,j<g.bk.length/\V j/\(cd g j).kind=2/\(cd g j).info=(s:Int)
 lk:∀j,j<g.bk.length->V j->aCp g m j
 kd:∀j k,j<g.bk.length->k<(cd g j).next.length->W j k->0<=iM g m j k/\aA2 g m j k/\((cd g j).kind=2->(A.getD (cd g j).info.toNat []).getD k 0=iM g m j k)
structure qH(g:bD)(m:bu):Prop where
 len:m.length=g.bk.length
 inn:nE m g.bk.length
section
variable {g:bD}{m:bu}{V V':Nat->Prop}{W W':Nat->Nat->Prop}{I F:bu}{A:bt}
theorem qH.at(h:qH g m){i:Nat}(hi:i<g.bk.length):m.getD i 0=((eR m i:Nat):Int)/\eR m i<g.bk.length:=by
 have hl:i<m.length:=by rw[h.len];exact hi
 have hmem:m.getD i 0∈m:=by rw[Ad,Ac hl];exact Bo _
 have:=h.inn _ hmem;unfold eR;omega
theorem Seen.congr(h:Seen g m V W I A)(hV:∀j,j<g.bk.length->(V j↔V' j))(hW:∀j k,j<g.bk.length->k<(cd g j).next.length->W' j k->W j k):Seen g m V' W' I A:=
 ⟨h.li,h.la,h.ls,fun j hj hv=>h.iv j hj ((hV j hj).2 hv),fun s hs h0=>by have⟨j,a,b,c⟩:=h.iw s hs h0;exact⟨j,a,(hV j a).1 b,c⟩,fun j hj hv=>h.lk j hj ((hV j hj).2 hv),fun j k hj hk hw=>h.kd j k hj hk (hW j k hj hk hw)⟩
theorem nI{l:bu}{n j:Nat}{x:Int}(hn:n<l.length):(l.set n x).getD j 0=if n=j then x else l.getD j 0:=by
 rw[Ad,Du];split
 ·rfl
 ·rw[Ad]
theorem tK{l:bt}{n j:Nat}{x:bu}(hn:n<l.length):(l.set n x).getD j []=if n=j then x else l.getD j []:=by
 rw[Ad,Du];split
 ·rfl
 ·rw[Ad]
theorem pU(G:eY g)(M:qH g m){i:Nat}(hi:i<g.bk.length)(hl:aCp g m i)(hk:(cd g i).kind=2):0<=(cd g (eR m i)).info/\(cd g (eR m i)).info<g.bn.length:=by
 have:=G.inf (eR m i) (M.at hi).2 (by rw[<-hl.1];exact hk);exact⟨this.1,this.2.1⟩
theorem Seen.node(h:Seen g m V W I A){i:Nat}(hl:aCp g m i)(hk:(cd g i).kind≠2):Seen g m (fun j=>V j\/j=i) W I A:=
 ⟨h.li,h.la,h.ls,fun j hj hv hk'=>by
  rcases hv with hv | rfl
  ·exact h.iv j hj hv hk'
  ·exact absurd hk' hk,fun s hs h0=>by have⟨j,a,b,c⟩:=h.iw s hs h0;exact⟨j,a,.inl b,c⟩,fun j hj hv=>by
  rcases hv with hv | rfl
  ·exact h.lk j hj hv
  ·exact hl,h.kd⟩
theorem Seen.nodeM(G:eY g)(M:qH g m)(h:Seen g m V W I A){i:Nat}(hi:i<g.bk.length)(hl:aCp g m i)(hk:(cd g i).kind=2)(hI:0<=I.getD (cd g i).info.toNat 0->I.getD (cd g i).info.toNat 0=(cd g (eR m i)).info):Seen g m (fun j=>V j\/j=i) W (I.set (cd g i).info.toNat (cd g (eR m i)).info) A:=by
 have⟨a1,a2,a3⟩:=G.inf i hi hk;have hlt:(cd g i).info.toNat<I.length:=by rw[h.li];omega
 refine⟨by rw[Ar];exact h.li,h.la,h.ls,fun j hj hv hk'=>?_,fun s hs h0=>?_,fun j hj hv=>?_,h.kd⟩
 ·rw[nI hlt];have⟨b1,b2,b3⟩:=G.inf j hj hk';rcases hv with hv | rfl
  ·have:=h.iv j hj hv hk';split
   ·rename_i e;have e':(cd g j).info=(cd g i).info:=by omega
    rw[e'] at this;have:=hI (by rw[this];exact(pU G M hj (h.lk j hj hv) hk').1);omega
   ·exact this
  ·rw[if_pos rfl]
 ·rw[nI hlt] at h0;split at h0
  ·rename_i e;exact⟨i,hi,.inr rfl,hk,ay⟩
  ·have⟨j,a,b,c⟩:=h.iw s hs h0;exact⟨j,a,.inl b,c⟩
 ·rcases hv with hv | rfl
  ·exact h.lk j hj hv
  ·exact hl
theorem Seen.kid(h:Seen g m V W I A){i k:Nat}(h0:0<=iM g m i k)(hw:aA2 g m i k)(hk:(cd g i).kind≠2):Seen g m V (fun j k'=>W j k'\/(j=i/\k'=k)) I A:=
 ⟨h.li,h.la,h.ls,h.iv,h.iw,h.lk,fun j k' hj hk' hv=>by
  rcases hv with hv | ⟨rfl,rfl⟩
  ·exact h.kd j k' hj hk' hv
  ·exact⟨h0,hw,fun e=>absurd e hk⟩⟩
theorem Seen.kidM(G:eY g)(h:Seen g m V W I A){i k:Nat}(hi:i<g.bk.length)(hkl:k<(cd g i).next.length)(h0:0<=iM g m i k)(hw:aA2 g m i k)(hk:(cd g i).kind=2)
  (hA:∀j,j<g.bk.length->W j k->(cd g j).kind=2->(cd g j).info=(cd g i).info->(A.getD (cd g i).info.toNat []).getD k 0=iM g m i k):
  Seen g m V (fun j k'=>W j k'\/(j=i/\k'=k)) I (A.set (cd g i).info.toNat ((A.getD (cd g i).info.toNat []).set k (iM g m i k))):=by
 have⟨a1,a2,a3⟩:=G.inf i hi hk;have hlt:(cd g i).info.toNat<A.length:=by rw[h.la];omega
 have hls:=h.ls (cd g i).info.toNat ay;rw[show(((cd g i).info.toNat:Nat):Int)=(cd g i).info by omega,a3] at hls;refine⟨h.li,by rw[Ar];exact h.la,fun s hs=>?_,h.iv,h.iw,h.lk,fun j k' hj hk' hv=>?_⟩
 ·rw[tK hlt];split
  ·rename_i e;rw[Ar,e];exact h.ls s hs
  ·exact h.ls s hs
 ·have key:(cd g j).kind=2->((A.set (cd g i).info.toNat ((A.getD (cd g i).info.toNat []).set k (iM g m i k))).getD (cd g j).info.toNat []).getD k' 0=if(cd g j).info=(cd g i).info/\k=k' then iM g m i k else(A.getD (cd g j).info.toNat []).getD k' 0:=fun hkj=>by
   have⟨b1,b2,b3⟩:=G.inf j hj hkj;rw[tK hlt];by_cases e:(cd g j).info=(cd g i).info
   ·rw[if_pos (by rw[e]),nI ay,e];by_cases e2:k=k'
    ·rw[if_pos e2,if_pos ⟨rfl,e2⟩]
    ·rw[if_neg e2,if_neg (fun h=>e2 h.2)]
   ·rw[if_neg ay,if_neg (fun h=>e h.1)]
  rcases hv with hv | ⟨rfl,rfl⟩
  ·have⟨c1,c2,c3⟩:=h.kd j k' hj hk' hv;refine⟨c1,c2,fun hkj=>?_⟩;rw[key hkj];split
   ·rename_i e;obtain⟨e1,rfl⟩:=e;have:=c3 hkj;rw[<-hA j hj hv hkj e1,<-e1];exact this
   ·exact c3 hkj
  ·exact⟨h0,hw,fun hkj=>by rw[key hkj,if_pos ⟨rfl,rfl⟩]⟩
theorem aJk{i:Nat}(hi:i<g.bk.length)(h:¬aCp g m i):¬iB g m:=fun a=>h (a.like i hi)
theorem aNt{i k:Nat}(hi:i<g.bk.length)(hk:k<(cd g i).next.length)(h:¬0<=iM g m i k):¬iB g m:=fun a=>h (a.kid i k hi hk)
theorem aGu{i k:Nat}(hi:i<g.bk.length)(hk:k<(cd g i).next.length)(h:¬aA2 g m i k):¬iB g m:=fun a=>h (a.weigh i k hi hk)
theorem Seen.no_info(h:Seen g m V W I A)(G:eY g){i:Nat}(hi:i<g.bk.length)(hk:(cd g i).kind=2)(h0:0<=I.getD (cd g i).info.toNat 0)(h1:I.getD (cd g i).info.toNat 0≠(cd g (eR m i)).info):¬iB g m:=fun a=>by
 have⟨a1,a2,a3⟩:=G.inf i hi hk;have⟨j,b1,b2,b3,b4⟩:=h.iw _ ay h0;have e:(cd g j).info=(cd g i).info:=by omega
 have:=h.iv j b1 b2 b3;rw[e] at this;exact h1 (this.trans (a.info j i b1 hi b3 hk e).1)
theorem Seen.no_act(h:Seen g m V W I A)(G:eY g){i j k:Nat}(hi:i<g.bk.length)(hj:j<g.bk.length)(hk:(cd g i).kind=2)(hkj:(cd g j).kind=2)(e:(cd g j).info=(cd g i).info)(hkl:k<(cd g i).next.length)(hW:W j k)(h1:(A.getD (cd g i).info.toNat []).getD k 0≠iM g m i k):¬iB g m:=fun a=>by
 have a3:=(G.inf i hi hk).2.2;have b3:=(G.inf j hj hkj).2.2;rw[e,a3] at b3;have:=(h.kd j k hj ay hW).2.2 hkj;rw[e] at this;exact h1 (this.trans ((a.info j i hj hi hkj hk e).2 k ay))
theorem Seen.no_inj(h:Seen g m (fun _=>True) W I A)(G:eY g){a b:Nat}(ha:a<g.bn.length)(hb:b<g.bn.length)(hab:b≠a)(he:I.getD a 0=I.getD b 0):¬iB g m:=fun u=>by
 have⟨f1,f2,f3⟩:=G.fst a ha;have⟨e1,e2,e3⟩:=G.fst b hb;have ia:=h.iv _ f1 trivial f2;have ib:=h.iv _ e1 trivial e2;rw[f3,Ax] at ia;rw[e3,Ax] at ib;have:=u.inj _ _ f1 e1 f2 e2 (by rw[<-ia,<-ib,he]);omega
theorem Seen.inj(h:Seen g m (fun _=>True) W I A)(G:eY g)(hd:∀a b,b<a->a<g.bn.length->I.getD a 0≠I.getD b 0):∀i j,i<g.bk.length->j<g.bk.length->(cd g i).kind=2->(cd g j).kind=2->(cd g (eR m i)).info=(cd g (eR m j)).info->(cd g i).info=(cd g j).info:=fun i j hi hj hki hkj e=>by
 have⟨a1,a2,_⟩:=G.inf i hi hki;have⟨b1,b2,_⟩:=G.inf j hj hkj;have ia:=h.iv i hi trivial hki;have ib:=h.iv j hj trivial hkj;rcases Dt (cd g i).info.toNat (cd g j).info.toNat with h1 | h1 | h1
 ·exact absurd (by rw[ia,ib,e]) (hd _ _ h1 ay)
 ·omega
 ·exact absurd (by rw[ia,ib,e]) (hd _ _ h1 ay)
theorem Seen.auto(h:Seen g m (fun _=>True) (fun _ _=>True) I A)(G:eY g)(root:m.getD 0 0=0)(inj:∀i j,i<g.bk.length->j<g.bk.length->(cd g i).kind=2->(cd g j).kind=2->(cd g (eR m i)).info=(cd g (eR m j)).info->(cd g i).info=(cd g j).info):iB g m:=by
 refine⟨root,fun i hi=>h.lk i hi trivial,fun i k hi hk=>(h.kd i k hi hk trivial).1,fun i k hi hk=>(h.kd i k hi hk trivial).2.1,fun i j hi hj hki hkj e=>⟨?_,fun k hk=>?_⟩,inj⟩
 ·rw[<-h.iv i hi trivial hki,<-h.iv j hj trivial hkj,e]
 ·have a3:=(G.inf i hi hki).2.2;have b3:=(G.inf j hj hkj).2.2;rw[<-e,a3] at b3;rw[<- (h.kd i k hi hk trivial).2.2 hki,<- (h.kd j k hj ay trivial).2.2 hkj,e]
theorem Seen.cw(h:Seen g m (fun _=>True) W I A)(G:eY g):I=cw g m:=by
 refine aDT (by rw[h.li];simp [Gl.cw]) fun s hs=>?_;have hs:s<g.bn.length:=by simpa [Gl.cw] using hs
 have⟨f1,f2,f3⟩:=G.fst s hs;have:=h.iv _ f1 trivial f2;rw[f3] at this;rw[show((s:Int)).toNat=s by omega] at this;rw[this];unfold Gl.cw;rw[Ad,Bc,Dc hs];rfl
theorem Seen.c8(h:Seen g m V (fun _ _=>True) I A)(G:eY g):A=c8 g m:=by
 refine List.ext_getElem? fun s=>?_;by_cases hs:s<g.bn.length
 ·have⟨f1,f2,f3⟩:=G.fst s hs;have a3:=(G.inf _ f1 f2).2.2;have hl:=h.ls s hs;rw[f3] at a3;unfold Gl.c8;rw[Bc,Dc hs,Ac (show s<A.length by rw[h.la];exact hs)];have hA:A[s]'(by rw[h.la];exact hs)=A.getD s []:=by rw[Ad,Ac (show s<A.length by rw[h.la];exact hs)];rfl
  rw[hA];show some _=some _;congr 1;refine aDT (by simp only[Ay,Dr];omega) fun k hk=>?_;have hk:k<(cd g (kS g s)).next.length:=by simpa using hk
  have:=(h.kd _ k f1 hk trivial).2.2 f2;rw[f3,show((s:Int)).toNat=s by omega] at this;rw[this,Ad,Bc,Dc hk];rfl
 ·rw[Bz (by rw[h.la];omega),Bz (by simp [Gl.c8];omega)]
end
def qU(b:Nat)(l:bu):AV:=.sl b 0 l.length l.length false
structure yJ(S0 X:St)(bs:Nat->Nat)(cs:b6)(A:bt):Prop where
 cl:∀j,j<A.length->cs[j]? =some (qU (bs j) (A.getD j []))
 bl:∀j,j<A.length->S0.nx<=bs j/\bs j<X.nx/\X.h.get (bs j)=some (.cells (bJ (A.getD j [])) false 0)
 dj:∀j k,j<A.length->k<A.length->j≠k->bs j≠bs k
section
variable {S0 X X':St}{bs:Nat->Nat}{cs:b6}{A:bt}
theorem yJ.move(h:yJ S0 X bs cs A)(hn:X.nx<=X'.nx)(hh:∀j,j<A.length->X'.h.get (bs j)=X.h.get (bs j)):yJ S0 X' bs cs A:=
 ⟨h.cl,fun j hj=>by have⟨a,b,c⟩:=h.bl j hj;exact⟨a,Ae b hn,(hh j hj).trans c⟩,h.dj⟩
theorem yJ.same(h:yJ S0 X bs cs A)(hs:Same X X'):yJ S0 X' bs cs A:=h.move hs.1 fun j hj=>hs.2 _ (h.bl j hj).2.1
theorem yJ.none:yJ S0 X bs cs []:=⟨fun j hj=>absurd hj (Cf j),fun j hj=>absurd hj (Cf j),fun j k hj=>absurd hj (Cf j)⟩
theorem xS{l:bt}{x:bu}{j:Nat}:(l++ [x]).getD j []=if j=l.length then x else l.getD j []:=by
 rw[Ad,Ad];by_cases h:j<l.length
 ·rw[Al h,if_neg ay]
 ·rw[Am ay];by_cases e:j=l.length
  ·rw[if_pos e,e,Dn];rfl
  ·rw[if_neg e,Bz (by simp;omega),Bz ay]
theorem yJ.add(h:yJ S0 X bs cs A){nb:Nat}{l:bu}{cs':b6}(h0:S0.nx<=nb)(h1:nb<X.nx)(hg:X.h.get nb=some (.cells (bJ l) false 0))(hne:∀j,j<A.length->bs j≠nb)(hc:∀j,j<A.length->cs'[j]? =cs[j]?)(hl:cs'[A.length]? =some (qU nb l)):yJ S0 X (fun j=>if j=A.length then nb else bs j) cs' (A++ [l]):=by
 refine⟨fun j hj=>?_,fun j hj=>?_,fun j k hj hk hjk=>?_⟩
 ·rw[Ai,Av] at hj;rw[xS];try simp only
  by_cases e:j=A.length
  ·rw[if_pos e,if_pos e,e];exact hl
  ·rw[if_neg e,if_neg e,hc j ay];exact h.cl j ay
 ·rw[Ai,Av] at hj;rw[xS];try simp only
  by_cases e:j=A.length
  ·rw[if_pos e,if_pos e];exact⟨h0,h1,hg⟩
  ·rw[if_neg e,if_neg e];exact h.bl j ay
 ·rw[Ai,Av] at hj hk;try simp only
  by_cases e:j=A.length
  ·rw[if_pos e,if_neg ay];exact Cx (hne k ay)
  ·rw[if_neg e];by_cases e2:k=A.length
   ·rw[if_pos e2];exact hne j ay
   ·rw[if_neg e2];exact h.dj j k ay ay  hjk
theorem yJ.put(h:yJ S0 X bs cs A){s k:Nat}{v:Int}(hs:s<A.length){n:Nat}(hn:X.nx<=n):yJ S0 ⟨X.h.set (bs s) (some (.cells (bJ ((A.getD s []).set k v)) false 0)),n⟩ bs cs (A.set s ((A.getD s []).set k v)):=by
 refine⟨fun j hj=>?_,fun j hj=>?_,fun j k hj hk=>?_⟩
 ·rw[Ar] at hj;rw[tK hs,h.cl j hj];split
  ·rename_i e;unfold qU;rw[Ar,e]
  ·rfl
 ·rw[Ar] at hj;rw[tK hs];have⟨a,b,c⟩:=h.bl j hj;refine⟨a,Ae b hn,?_⟩;try simp only
  rw[dd];by_cases e:s=j
  ·rw[if_pos e,if_pos (by rw[e])]
  ·rw[if_neg e,if_neg (h.dj j s hj hs (Cx e))];exact c
 ·rw[Ar] at hj hk;exact h.dj j k hj hk
theorem yJ.is(h:yJ S0 X bs cs A){ob cap sz:Nat}{o o':Bool}(hob:X.h.get ob=some (.cells cs o sz))(lt:ob<X.nx)(hc:A.length<=cap):aP 1 pF X (.sl ob 0 A.length cap o') A:=by
 refine .inr ⟨ob,0,cap,o',cs,rfl,hc,lt,by unfold cJ;rw[hob];rfl,fun i l hi=>?_⟩;have hlt:=(Aj.1 hi).1;have e:A.getD i []=l:=by rw[Ad,hi];rfl
 have h1:=h.cl i hlt;have⟨_,h3,h4⟩:=h.bl i hlt;rw[e] at h1 h4;refine⟨[qU (bs i) l],rfl,fun j x hj=>?_,_,rfl,aCT h4 h3 rfl⟩;cases j with
 | zero=>
  cases hj;rw[An,Dm,Bh];exact h1
 | succ j=>simp at hj
end
theorem fX.push1{bytes t n:Nat}{S0 S:St}{v x:AV}{cs:b6}(h:fX 1 S0 S v n cs)(hS:Same S0 S)(ht:S.h.get t=some (.cells [x] false 0))(h1:n+1<=room)(h2:(n+1) * bytes<=room):
  ∃v' S',fN bytes 1 v (.sl t 0 1 1 false) S=some (v',S')/\fX 1 S0 S' v' (n+1) (cs++ [x])/\aX v'=some S.nx/\S'.nx=S.nx+1/\∀c,c<S.nx->aX v≠some c->S'.h.get c=S.h.get c:=by
 have hs:=aOq ht;rcases h with⟨rfl,rfl,rfl⟩ | ⟨b,rfl,hb0,hb,hg,hc⟩
 ·refine⟨.sl S.nx 0 1 1 true,⟨S.h.set S.nx (some (.cells [x] true 1)),S.nx+1⟩,?_,.inr ⟨S.nx,by rw[An],hS.1,by simp,?_,?_⟩,rfl,rfl,fun c hc _=>(Same.alloc S _).2 c hc⟩
  ·show(bH (some 1) fun j=>bH (eE (.sl t 0 1 1 false) S.h 1 j) fun new=>yA .cb bytes 1 j new S)=_;rw[aN,hs,aN];show pI bytes 1 1 [x] S=_;unfold pI;rw[show Nat.beq 1 0=false from rfl,aT,Ak ay,aO,Ak (by rw[An] at h2;exact h2),aO];rfl
  ·simp only;rw[dd,if_pos rfl];rfl
  ·rfl
 ·refine⟨.sl S.nx 0 (n+1) (n+1) true,⟨(S.h.set b none).set S.nx (some (.cells (cs++ [x]) true 1)),S.nx+1⟩,?_,.inr ⟨S.nx,rfl,hS.1,by simp,?_,by rw[Ai,hc,Av,Ec,Fi]⟩,rfl,rfl,fun c hc hne=>?_⟩
  ·show(bH (some 1) fun j=>bH (eE (.sl t 0 1 1 false) S.h 1 j) fun new=>yA (.sl b 0 n n true) bytes 1 j new S)=_;rw[aN,hs,aN];show jK bytes 1 b 0 n n true 1 [x] S=_;unfold jK;have e2:Nat.ble (n+1) n=false:=by rw[Ch];intro h;have:=Ba h;omega
   rw[e2,aT,Ak h1,aO,Ak h2,aO,hg,aN];have e3:cut cs 0 (n * 1)=some cs:=by
    unfold cut;rw[fU,fZ,Di,if_pos ay,Bb ay]
   have e4:Nat.beq (0+n * 1) (lO cs)=true:=by rw[fL,hc,Bg];omega
   simp only[vJ,e3,aN,aO,e4,show Nat.beq 1 1=true from rfl,grown,fW]
  ·simp only;rw[dd,if_pos rfl]
  ·simp only;have:c≠b:=fun e=>hne (by rw[e];rfl);rw[dd,if_neg ay,dd,if_neg this]
theorem aQx{t b n c:Nat}{o:Bool}{z:AV}{x:cU}{F:Fr}{id:Nat}(hx:x.val F= .sl b 0 n c o):sH (.ch t 1 1 [z] [(0,x)]) F id=some (.sl id 0 1 1 false,.cells [.sl b 0 n c o] false 0):=by
 show(bH (eZ (repeatL [z] 1) [(0 * 1,1,x.val F)]) fun cs=>some (AV.sl id 0 1 1 false,AB.cells cs false 0))=_;rw[hx];rfl
theorem fX.move{k n:Nat}{S0 S S':St}{v:AV}{cs:b6}(h:fX k S0 S v n cs)(hn:S.nx<=S'.nx)(hh:∀c,aX v=some c->S'.h.get c=S.h.get c):fX k S0 S' v n cs:=by
 rcases h with h | ⟨b,rfl,h2,h3,h4,h5⟩
 ·exact .inl h
 ·exact .inr ⟨b,rfl,h2,Ae h3 hn,(hh b rfl).trans h4,h5⟩
theorem fX.csl{k n:Nat}{S0 S:St}{v:AV}{cs:b6}(h:fX k S0 S v n cs):cs.length=n * k:=by
 rcases h with⟨_,rfl,rfl⟩ | ⟨b,_,_,_,_,h5⟩
 ·rw[Cy];rfl
 ·exact h5
theorem bO.place{k:IntKind}{S:St}{v:AV}{l:bu}(h:bO k S v l){i:Nat}(hi:i<l.length):∃b p,aAe v i= .ptr b p/\b<S.nx:=by
 rcases h with⟨h0,_⟩ | ⟨b,off,cap,o,cs,rfl,_,hb,_⟩
 ·rw[h0] at hi;exact absurd hi (Cf _)
 ·exact⟨b,_,rfl,hb⟩
theorem aJz{h:Ev.T AB}{a b s s':Nat}{cs cs':b6}(ha:h.get a=some (.cells cs false s))(hb:h.get b=some (.cells cs' true s')):a≠b:=fun e=>by
 rw[e,hb] at ha;have⟨_,h2,_⟩:=AB.cells.inj (Bl ha);cases h2
theorem aJb{W:Nat->Prop}{h0:Ev.T AB}{base:Nat}{F:Fr}{S:St}{Q:Fr->St->List iH->Prop}{i a b n m1 m2 j1 j2:Nat}{z cx cy:b6}{t1 t2 u1 u2:cU}(ht1:Nat.testBit m1 j1=true)(ht2:Nat.testBit m1 j2=true)(hm2:mB (some i) m2=true)
  (h1:t1.val F= .ptr a 0) (h2:t2.val F= .ptr b 0) (hu1:(u1.val F).cells=some cx) (hu2:(u2.val F).cells=some cy) (lz:z.length=n) (lx:cx.length=n) (ly:cy.length=n) (hab:a≠b) (hba:base<=a) (hbb:base<=b)
  (hr:∀S',S'.nx=S.nx->S'.h.get a=some (.cells cx false 0)->S'.h.get b=some (.cells cy false 0)->(∀c,c≠a->c≠b->S'.h.get c=S.h.get c)->Q F S' []):
  gN fns W h0 base [⟨none,.x (.st n t1 u1),none,m1⟩,⟨none,.x (.st n t2 u2),none,m2⟩] i F S [⟨j2,b,.cells z false 0⟩,⟨j1,a,.cells z false 0⟩] none Q:=by
 have hf:cO m1 [⟨j2,b,.cells z false 0⟩,⟨j1,a,.cells z false 0⟩] S.h=([],(S.h.set b (some (.cells z false 0))).set a (some (.cells z false 0))):=by rw[iD ht2,iD ht1,bX]
 have hg1:((S.h.set b (some (.cells z false 0))).set a (some (.cells z false 0))).get a=some (.cells z false 0):=by rw[dd,if_pos rfl]
 have x1:=aAH (S:=⟨(S.h.set b (some (.cells z false 0))).set a (some (.cells z false 0)),S.nx⟩) (cs':=cx) (n:=n) hg1 lz lx;refine xG (S1:=⟨((S.h.set b (some (.cells z false 0))).set a (some (.cells z false 0))).set a (some (.cells cx false 0)),S.nx⟩) rfl ?_ ?_ ?_
 ·rw[hf,h1,hu1,aN];exact x1
 ·rw[hf];exact⟨Ag _,fun c hc _=>by simp only;rw[dd,if_neg ay]⟩
 rw[hf];have hg2:(((S.h.set b (some (.cells z false 0))).set a (some (.cells z false 0))).set a (some (.cells cx false 0))).get b=some (.cells z false 0):=by rw[dd,if_neg (Cx hab),dd,if_neg (Cx hab),dd,if_pos rfl]
 have x2:=aAH (S:=⟨((S.h.set b (some (.cells z false 0))).set a (some (.cells z false 0))).set a (some (.cells cx false 0)),S.nx⟩) (cs':=cy) (n:=n) hg2 lz ly;refine xG (S1:=⟨(((S.h.set b (some (.cells z false 0))).set a (some (.cells z false 0))).set a (some (.cells cx false 0))).set b (some (.cells cy false 0)),S.nx⟩) hm2 ?_ ?_ ?_
 ·rw[bX];show bH (u2.val F).cells (fun cs=>mJ (t2.val F) n cs _)=_;rw[h2,hu2,aN];exact x2
 ·rw[bX];exact⟨Ag _,fun c hc _=>by simp only;rw[dd,if_neg ay]⟩
 rw[bX];refine hr _ rfl ?_ ?_ fun c hc1 hc2=>?_
 ·simp only;rw[dd,if_neg hab,dd,if_pos rfl]
 ·simp only;rw[dd,if_pos rfl]
 ·simp only;rw[dd,if_neg hc2,dd,if_neg hc1,dd,if_neg hc1,dd,if_neg hc2]
theorem fX.low{k n:Nat}{S S1 X:St}{v:AV}{cs:b6}(h:fX k S1 X v n cs)(hs:S.nx<=S1.nx):fX k S X v n cs:=by
 rcases h with h | ⟨b,h1,h2,h3⟩
 ·exact .inl h
 ·exact .inr ⟨b,h1,Au hs h2,h3⟩
theorem yJ.low{S S1 X:St}{bs:Nat->Nat}{cs:b6}{A:bt}(h:yJ S1 X bs cs A)(hs:S.nx<=S1.nx):yJ S X bs cs A:=⟨h.cl,fun j hj=>by have⟨a,b⟩:=h.bl j hj;exact⟨Au hs a,b⟩,h.dj⟩
def aAl(g:bD):bt:=g.bn.map fun x=>List.replicate x.ca.toNat 0
def aRW(S1:St)(gb:Nat)(mv:AV)(g:bD)(k:Nat)(A:bS)(X:St):Prop:=A.inr=false/\Same S1 X/\∃i v w cs bs,i+k=g.bn.length/\fX 1 S1 X v i (bJ (List.replicate i (-1)))/\fX 1 S1 X w i cs/\yJ S1 X bs cs ((aAl g).take i)/\(∀c,aX v=some c->aX w≠some c)/\aD 1 A.F=mv/\aD 2 A.F= .ptr gb 0/\aD 4 A.F=v/\aD 5 A.F=w/\aD 7 A.F= .int .i64 (i:Int)
theorem aRO{g:bD}{m:bu}(G:eY g):Seen g m (fun j=>j<0) (fun j _=>j<0) (List.replicate g.bn.length (-1)) (aAl g):=by
 refine⟨Aq ..,by unfold aAl;rw[Ay],fun s hs=>?_,fun j _ hj=>ay,fun s hs h0=>?_,fun j _ hj=>ay,fun j k _ _ hj=>ay⟩
 ·have⟨f1,f2,f3⟩:=G.fst s hs;have hac:=(G.inf _ f1 f2).2.2;rw[f3] at hac;have e:(aAl g).getD s []=List.replicate (ce g (s:Int)).ca.toNat 0:=by
   unfold aAl ce;rw[Ad,Bc,Ad,Ax,Ac hs];rfl
  rw[e,Aq];omega
 ·rw[Ad,Cl,if_pos hs] at h0;exact absurd h0 bg
def aRK(S1:St)(gb:Nat)(mv v w:AV)(cs:b6)(bs:Nat->Nat)(g:bD)(m:bu)(k:Nat)(A:bS)(X:St):Prop:=A.inr=false/\Same S1 X/\∃i I As,i+k=g.bk.length/\fX 1 S1 X v g.bn.length (bJ I)/\fX 1 S1 X w g.bn.length cs/\yJ S1 X bs cs As/\Seen g m (fun j=>j<i) (fun j _=>j<i) I As/\aD 1 A.F=mv/\aD 2 A.F= .ptr gb 0/\aD 4 A.F=v/\aD 5 A.F=w/\aD 8 A.F= .int .i64 (i:Int)
theorem aAY{h:Ev.T AB}{b p sz:Nat}{l:bu}{o:Bool}(hb:h.get b=some (.cells (bJ l) o sz))(hp:p<l.length):eQ (.ptr b p) false 1 h=some (.int .i64 (l.getD p 0)):=cV hb (by
 unfold bJ;rw[Bc,Ac hp,Ad,Ac hp];rfl)
theorem oZ{k:IntKind}{x:Int}(h:0<=x):fG (.int k x)=some x.toNat:=by
 obtain⟨n,rfl⟩:∃n:Nat,x=(n:Int):=⟨x.toNat,ay⟩;rw[Ax];exact aJ ..
def mL(F:Fr)(gb xb yb:Nat)(mv v w:AV)(i:Nat):Prop:=aD 1 F=mv/\aD 2 F= .ptr gb 0/\aD 4 F=v/\aD 5 F=w/\aD 8 F= .int .i64 (i:Int)/\aD 9 F= .ptr xb 0/\aD 10 F= .ptr yb 0
theorem oU{x0 x1 x2:Int}{a b c:AV}{k:IntKind}(ha:cT a a=true)(hb:cT b b=true)(hc:cT c c=true):cT (.agg [.int k x0,.int k x1,.int k x2,a,b,c]) (.agg [.int k x0,.int k x1,.int k x2,a,b,c])=true:=aBy (eM ..) (eM ..) (eM ..) ha hb hc
theorem aJm{g:bD}{m:bu}{i k:Nat}(h:0<=iM g m i k):(iM g m i k).toNat<(cd g (eR m i)).next.length:=by
 unfold iM at h ⊢;rcases oN (c:=m.getD ((cd g i).next.getD k 0).toNat 0) (l:=(cd g (eR m i)).next) (s:=0) with⟨h1,_⟩ | ⟨j,h1,h2,_⟩
 ·rw[h1] at h;exact absurd h bg
 ·rw[h1];have:=(Aj.1 h2).1;omega
def aQY(S1:St)(gb xb yb:Nat)(mv v w:AV)(cs:b6)(bs:Nat->Nat)(g:bD)(m:bu)(i:Nat)(kn:Bool)(cx cy:Option AB)(k:Nat)(A:bS)(X:St):Prop:=A.inr=false/\Same S1 X/\xb<X.nx/\yb<X.nx/\∃kk I As,kk+k=(cd g i).next.length/\fX 1 S1 X v g.bn.length (bJ I)/\fX 1 S1 X w g.bn.length cs/\yJ S1 X bs cs As/\Seen g m (fun j=>j<i\/j=i) (fun j k'=>j<i\/(j=i/\k'<kk)) I As/\mL A.F gb xb yb mv v w i/\X.h.get xb=cx/\X.h.get yb=cy/\aD 11 A.F= .bool kn/\aD 12 A.F= .int .i64 (kk:Int)
def aRb(X0:St)(v w:AV)(I:bu)(n k:Nat)(A:bS)(X:St):Prop:=A.inr=false/\Same X0 X/\∃i,i+k=n/\(∀a b,b<a->a<i->I.getD a 0≠I.getD b 0)/\aD 4 A.F=v/\aD 5 A.F=w/\aD 14 A.F= .int .i64 (i:Int)
def aR4(X0:St)(v w:AV)(I:bu)(i k:Nat)(A:bS)(X:St):Prop:=A.inr=false/\Same X0 X/\∃l,l+k=i/\(∀b,b<l->I.getD i 0≠I.getD b 0)/\aD 4 A.F=v/\aD 5 A.F=w/\aD 14 A.F= .int .i64 (i:Int)/\aD 15 A.F= .int .i64 (l:Int)
def aC9(S1:St)(g:bD)(m:bu)(A:bS)(X:St):Prop:=Same S1 X/\¬iB g m/\aD 4 A.F= .cb/\aD 5 A.F= .cb/\aD 6 A.F= .bool false
def aRd(g:bD)(m:bu)(S S':St)(x y:AV):Prop:=fX 1 S S' x g.bn.length (bJ (cw g m))/\∃cs bs,fX 1 S S' y g.bn.length cs/\yJ S S' bs cs (c8 g m)
theorem aH1{S:St}{nv iv mv:AV}{g:bD}{m:bu}(H:Has fns)(hn:aP 6 cI S nv g.bk)(hi:aP 2 cW S iv g.bn)(hm:bO .i64 S mv m)(G:eY g)(M:qH g m):
  gH fns (.fn 33 [] []) [.agg [.int .i64 g.bo,nv,iv],mv] S fun r S'=>Same S S'/\∃a b t,r= .tup [a,b,.bool t]/\(t=true↔iB g m)/\(t=true->aRd g m S S' a b):=by
 have hml:0<m.length:=by rw[M.len];exact G.n1
 have hN:=G.n2;have hNI:=G.ni;refine cF H.f33 (by simp) ?_;refine af ?_;refine bQ ?_;refine dV (by refine af ?_;exact bL _) ?_;intro S1 s1 n1 c1;refine af ?_;have lg1:S.nx<S1.nx:=by omega
 have hm1:=hm.same s1;have ia0:=hm1.cn hml;have la0:=hm1.ld hml;refine fE (dh @aAX ia0 la0 ?_);by_cases h0:m.getD 0 0=0;rotate_left
 ·refine aM (fg (Ab (show m.getD 0 0≠0 from h0))) ?_;refine bQ (af ?_);refine aR (af ?_);exact⟨s1,_,_,false,rfl,⟨fun h=>(by cases h),fun a=>absurd a.root h0⟩,fun h=>by cases h⟩
 refine aK (fg (Aa (show ¬m.getD 0 0≠0 from fun h=>h h0))) (aH ?_);refine af ?_;refine aA (aW (Q:=fun o A' X=>o= .normal/\aRW S1 S.nx mv g 0 A' X) (aA (aG ?_)) ?_)
 ·refine af ?_;refine aL (bK (aRW S1 S.nx mv g) ?_ g.bn.length _ _ ⟨rfl,de _,0,.cb,.cb,[],fun _=>0,ay,.inl ⟨rfl,rfl,rfl⟩,.inl ⟨rfl,rfl,rfl⟩,yJ.none,(fun c hc=>by cases hc),by refine⟨?_,?_,?_,?_,?_⟩<;>simp only[↓sU,sD,rE,↓reduceIte,rA]⟩);rintro k ⟨F,inr⟩ X ⟨q0,hX,i,v,w,cs,bs,hik,gv,gw,hR,hvw,p1,p2,p4,p5,p7⟩;simp only at q0 p1 p2 p4 p5 p7;subst q0;have lgX:S.nx<X.nx:=Ae lg1 hX.1;have cX:X.h.get S.nx=some (.cells [.int .i64 g.bo,nv,iv] false 0):=by rw[hX.2 _ lg1];exact c1
  refine fE (du p2 p7 @aF @aE (lW cX) hi.len ?_);by_cases hlt:i<g.bn.length
  ·refine aM fe (aH ?_);refine af ?_;have⟨f1,f2,f3⟩:=G.fst i hlt;have hac:=(G.inf _ f1 f2).2.2;rw[f3] at hac;have⟨e,b,q,hian,hb,he,heq,_,hlf⟩:=aP.at hi bg (Ac hlt);have hia':g.bn[i]=ce g (i:Int):=by unfold ce;rw[Ad,Ax,Ac hlt];rfl
   unfold cW at heq;subst heq;have hl1:=hlf 1 _ rfl;rw[hia',hac] at hl1;rw[<-oM (s1.trans hX) hb] at hl1;have hnl:(cd g (kS g i)).next.length<=1000:=G.nxt _ f1;generalize hna:(cd g (kS g i)).next.length=na at *;have hgW:¬ (aX v=some S.nx\/aX w=some S.nx):=by
    rintro(h | h)
    ·have:=(gv.blk h).1;omega
    ·have:=(gw.blk h).1;omega
   have hbW:¬ (aX v=some b\/aX w=some b):=by
    rintro(h | h)
    ·have:=(gv.blk h).1;omega
    ·have:=(gw.blk h).1;omega
   have lbX:b<X.nx:=by omega
   have ev28:∀ (F:Fr) (id:Nat),sH (.ch 3 1 1 [.int .i64 0] [(0,.c (.int .i64 (.negSucc 0)))]) F id=some (.sl id 0 1 1 false,.cells [.int .i64 (-1)] false 0):=fun F id=>nT rfl;have w1:=dc i
   refine aA (aL (qZ (fun c=>aX v=some c\/aX w=some c) ?_));have sB:Same X ⟨X.h.set (X.nx+1) (some (.cells [.int .i64 (-1)] false 0)),X.nx+15⟩:=⟨by simp,fun c hc=>by simp only;rw[dd,if_neg ay]⟩;have⟨v',S2,eA,gA,bA,nA,rA⟩:=fX.push1 (bytes:=8) (t:=X.nx+1) (x:=.int .i64 (-1)) (gv.step sB) (hX.trans sB) fq bf bf;simp only at bA nA rA;refine df p4 ev28 ?_;refine sR (r:=v') (S1:=S2) rfl ?_ ?_ ?_
   ·rw[cS (bg:Nat.testBit 3 1=true)];refine af ?_;exact eA
   ·rw[cS (bg:Nat.testBit 3 1=true)];exact⟨by simp only;omega,fun c hc hw=>rA c ay fun e=>hw (.inl e)⟩
   rw[cS (bg:Nat.testBit 3 1=true)];have siv:=aP.self hi;simp only[↓sU,sD,rE,↓reduceIte,rA,p2,p5,p7,aF,aU,aE,lW cX,lgX,hgW,Ap,siv,aJ,hian,hl1,lbX,hbW];refine qI (n:=na) (fg @aJ) (fg @aJ) bf bf  ?_;refine af ?_;rw[aQx (b:=X.nx+10) (n:=na) (c:=na) (o:=false) (ag),oF];have hA0:((aAl g).take i).length=i:=by unfold aAl;rw[Bp,Ay];omega
   have hA1:(aAl g).take (i+1)=(aAl g).take i++ [List.replicate na 0]:=by
    rw[Bx];congr 1;unfold aAl;rw[Bc,Ac hlt,hia'];show [List.replicate (ce g (i:Int)).ca.toNat 0]=_;rw[hac,Ax]
   have hz:repeatL [AV.int .i64 0] na=bJ (List.replicate na 0):=pN na;have hm1:∀c,aX v=some c->c<X.nx:=fun c hc=>(gv.blk hc).2.1;have hm2:∀c,aX w=some c->c<X.nx:=fun c hc=>(gw.blk hc).2.1;have hflip:∀c,aX w=some c->aX v≠some c:=fun c h1 h2=>hvw c h2 h1;generalize hX2:(⟨(S2.h.set (X.nx+11) (some (.cells [.sl (X.nx+10) 0 na na false] false 0))).set (X.nx+10) (some (.cells (repeatL [.int .i64 0] na) false 0)),S2.nx⟩:St)=X2;have k2:∀c,c≠X.nx+10->c≠X.nx+11->X2.h.get c=S2.h.get c:=fun c h1 h2=>by rw[<-hX2];simp only;rw[dd,if_neg h1,dd,if_neg h2]
   have k10:X2.h.get (X.nx+10)=some (.cells (bJ (List.replicate na 0)) false 0):=by rw[<-hX2,hz];simp only;rw[dd,if_pos rfl]
   have k11:X2.h.get (X.nx+11)=some (.cells [qU (X.nx+10) (List.replicate na 0)] false 0):=by rw[<-hX2];simp only;rw[dd,if_neg ay,dd,if_pos rfl];unfold qU;rw[Aq]
   have n2:X2.nx=X.nx+16:=by rw[<-hX2];simp only;omega
   have hold2:∀c,c<X.nx->aX v≠some c->X2.h.get c=X.h.get c:=fun c hc hne=>by rw[k2 c ay ay,rA c ay hne,sB.2 c hc]
   have sX2:Same S1 X2:=⟨az hX.1,fun c hc=>by rw[hold2 c (az hX.1) (fun e=>by have:=(gv.blk e).1;omega)];exact hX.2 c hc⟩;have gw2:fX 1 S1 X2 w i cs:=gw.move ay fun c hc=>hold2 c (hm2 c hc) (hflip c hc);have⟨w',S3,eW,gB,bW,nW,rW⟩:=fX.push1 (bytes:=24) gw2 sX2 k11 bf bf;have hold3:∀c,c<X.nx->aX v≠some c->aX w≠some c->S3.h.get c=X.h.get c:=fun c hc h1 h2=>by rw[rW c ay h2,hold2 c hc h1]
   have sX3:Same S1 S3:=⟨az sX2.1,fun c hc=>by rw[rW c (az sX2.1) (fun e=>by have:=(gw.blk e).1;omega)];exact sX2.2 c hc⟩;have gv3:fX 1 S1 S3 v' (i+1) (bJ (List.replicate i (-1))++ [.int .i64 (-1)]):=gA.move ay fun c hc=>by
    rw[bA] at hc;cases hc;rw[rW _ ay (fun e=>by have:=hm2 _ e;omega),k2 _ ay ay]
   have e1:bJ (List.replicate i (-1))++ [.int .i64 (-1)]=bJ (List.replicate (i+1) (-1)):=by
    rw[List.replicate_succ'];unfold bJ;rw[Dd];rfl
   rw[e1] at gv3;have hcl:=gw.csl;have hR3:yJ S1 S3 (fun j=>if j=((aAl g).take i).length then X.nx+10 else bs j) (cs++ [qU (X.nx+10) (List.replicate na 0)]) ((aAl g).take i++ [List.replicate na 0]):=by
    refine yJ.add (hR.move ay fun j hj=>?_) (az hX.1) ay ?_ (fun j hj=>?_) (fun j hj=>?_) ?_
    ·have⟨_,b2,b3⟩:=hR.bl j hj;exact hold3 _ b2 (gv.off b3) (gw.off b3)
    ·rw[rW _ ay (fun e=>by have:=hm2 _ e;omega)];exact k10
    ·have:=(hR.bl j hj).2.1;omega
    ·rw[Al ay]
    ·rw[Am ay,hA0,show i - cs.length=0 by omega];rfl
   refine sR (r:=w') (S1:=S3) rfl ?_ ?_ ?_
   ·rw[iD (bg:Nat.testBit 4095 11=true),iD (bg:Nat.testBit 4095 10=true),bX,hX2];refine af ?_;exact eW
   ·rw[iD (bg:Nat.testBit 4095 11=true),iD (bg:Nat.testBit 4095 10=true),bX,hX2];exact⟨ay,fun c hc hw=>rW c ay fun e=>hw (.inr e)⟩
   rw[iD (bg:Nat.testBit 4095 11=true),iD (bg:Nat.testBit 4095 10=true),bX];refine af ?_;refine aG (df p7 w1 ?_);refine⟨k - 1,ay,rfl,sX3,i+1,v',w',_,_,ay,gv3,gB,by rw[hA1];exact hR3,fun c h1 h2=>?_,by refine⟨?_,?_,?_,?_,?_⟩<;>simp only[↓sU,sD,rE,↓reduceIte,rA,p1,p2]⟩;rw[bA] at h1;rw[bW] at h2;have h1:=Bl h1;have h2:=Bl h2;omega
  ·refine aK fe (bG ?_);refine af ?_;have hk0:k=0:=by omega
   subst hk0;exact⟨rfl,hX,i,v,w,cs,bs,hik,gv,gw,hR,hvw,by refine⟨?_,?_,?_,?_,?_⟩<;>simp only[↓sU,sD,rE,↓reduceIte,rA,p1,p2,p4,p5,p7]⟩
 rintro o ⟨F,inr⟩ X ⟨rfl,q0,hX,i,v,w,cs,bs,hik,gv,gw,hR,hvw,p1,p2,p4,p5,p7⟩;simp only at q0 p1 p2 p4 p5;subst q0;clear p7;obtain rfl:i=g.bn.length:=by omega
 have hAl:(aAl g).length=g.bn.length:=by unfold aAl;rw[Ay]
 rw[Bb ay] at hR;refine af ?_;refine aA (aW (Q:=fun o A' Y=>(o= .normal/\aRK S1 S.nx mv v w cs bs g m 0 A' Y)\/(o= .ret/\aC9 S1 g m A' Y)) (aA (aG ?_)) ?_)
 ·refine af ?_;refine aL (bK (aRK S1 S.nx mv v w cs bs g m) ?_ g.bk.length _ _ ⟨rfl,hX,0,_,_,ay,gv,gw,hR,aRO G,by refine⟨?_,?_,?_,?_,?_⟩<;>simp only[↓sU,sD,rE,↓reduceIte,rA,p1,p2,p4,p5]⟩);clear p1 p2 p4 p5 gv gw hR hX X;rintro k ⟨F,inr⟩ X ⟨q0,hX,i,I,As,hik,gv,gw,hR,hS,p1,p2,p4,p5,p8⟩;simp only at q0 p1 p2 p4 p5 p8;subst q0;refine fE (dt p1 p8 hm.len M.len @Ah ?_);by_cases hlt:i<g.bk.length;rotate_left
  ·refine aK fe (bG ?_);refine af ?_;have hk0:k=0:=by omega
   subst hk0;exact .inl ⟨rfl,hX,i,I,As,hik,gv,gw,hR,hS,by refine⟨?_,?_,?_,?_,?_⟩<;>simp only[↓sU,sD,rE,↓reduceIte,rA,p1,p2,p4,p5,p8]⟩
  refine aM fe (aH ?_);refine af ?_;have lgX:S.nx<X.nx:=Ae lg1 hX.1;have cX:X.h.get S.nx=some (.cells [.int .i64 g.bo,nv,iv] false 0):=by rw[hX.2 _ lg1];exact c1
  have sX:=s1.trans hX;have hmX:=hm.same sX;have ia:=hmX.cn (show i<m.length by rw[M.len];exact hlt);have la:=hmX.ld (show i<m.length by rw[M.len];exact hlt);have⟨hto,htoN⟩:=M.at hlt;rw[hto] at la;obtain⟨_,bx,qx,hiax,hbx,_,⟨xa,xw,xp,rfl,hxa,hxw,hxp⟩,hldx,_⟩:=aP.at hn bg (eK hlt);obtain⟨_,by',qy,hiay,hby,_,⟨ya,yw,yp,rfl,hya,hyw,hyp⟩,hldy,_⟩:=aP.at hn bg (eK htoN);rw[<-oM sX hbx] at hldx;rw[<-oM sX hby] at hldy;have snv:=aP.self hn;have sx:=oU (k:=.i64) (x0:=(cd g i).kind) (x1:=(cd g i).player) (x2:=(cd g i).info) (bO.self hxa) (bO.self hxw) (bO.self hxp);have sy:=oU (k:=.i64) (x0:=(cd g (eR m i)).kind) (x1:=(cd g (eR m i)).player) (x2:=(cd g (eR m i)).info) (bO.self hya) (bO.self hyw) (bO.self hyp);have lbx:bx<X.nx:=Ae hbx sX.1;have lby:by'<X.nx:=Ae hby sX.1;have lel:∀ {i:Nat},i<m.length->∃b p,aAe mv i= .ptr b p/\b<X.nx:=fun {i} h=>bO.place hmX h;have⟨bm,pm,hem,lbm⟩:=lel (show i<m.length by rw[M.len];exact hlt);rw[hem] at ia la;have w1:=dc i
  refine aA (aL (aA (qZ (fun _=>False) ?_)));simp only[↓sU,sD,rE,↓reduceIte,rA,p1,p2,p8,aF,aU,aE,gI cX,lgX,Ap,snv,aJ,hiax,hldx,sx,lbx,ia,la,lbm,hiay,hldy,sy,lby,tJ];refine aJb (n:=6) rfl rfl rfl (ag) (ag) (by refine af ?_;exact bL _) (by refine af ?_;exact bL _) rfl rfl rfl ay ay ay ?_;intro X1 hX1n hgx hgy hX1;rw[bX];have hX1n:X1.nx=X.nx+17:=hX1n;have sX1:Same X X1:=⟨ay,fun c hc=>hX1 c ay ay⟩;have lxX:X.nx<=X.nx+13:=by omega
  have lyX:X.nx<=X.nx+14:=by omega
  have lx1:X.nx+13<X1.nx:=by omega
  have ly1:X.nx+14<X1.nx:=by omega
  show lU fns _ _ X1 _;refine aA (aA (aW (Q:=fun o A' Y=>o= .normal/\A'.inr=false/\Same X1 Y/\mL A'.F S.nx (X.nx+13) (X.nx+14) mv v w i/\∃t,aD 87 A'.F= .bool t/\(t=true↔¬aCp g m i)) (aG ?_) ?_))
  ·have sX1':=sX.trans sX1;have hxa1:=hxa.same sX1';have hya1:=hya.same sX1';have hxp1:=hxp.same sX1';have hyp1:=hyp.same sX1';by_cases q1:(cd g i).kind=(cd g (eR m i)).kind;rotate_left
   ·simp only[↓sU,sD,rE,↓reduceIte,rA,aF,aE,eG hgx,eG hgy,Ab (show(cd g i).kind≠(cd g (eR m i)).kind from q1),mL,p1,p2,p4,p5,p8];exact⟨de _,true,rfl,fun _ h=>q1 h.1,fun _=>rfl⟩
   by_cases q2:(cd g i).next.length=(cd g (eR m i)).next.length;rotate_left
   ·simp only[↓sU,sD,rE,↓reduceIte,rA,aF,aE,eG hgx,eG hgy,dI hgx,dI hgy,hxa1.len,hya1.len,Ah,Aa (show ¬ (cd g i).kind≠(cd g (eR m i)).kind from fun h=>h q1),Ab (show(((cd g i).next.length:Nat):Int)≠(((cd g (eR m i)).next.length:Nat):Int) by omega),mL,p1,p2,p4,p5,p8];exact⟨de _,true,rfl,fun _ h=>q2 h.2.1,fun _=>rfl⟩
   simp only[↓sU,sD,rE,↓reduceIte,rA,aF,aE,eG hgx,eG hgy,dI hgx,dI hgy,dW hgx,dW hgy,hxa1.len,hya1.len,Ah,Aa (show ¬ (cd g i).kind≠(cd g (eR m i)).kind from fun h=>h q1),Aa (show ¬ (((cd g i).next.length:Nat):Int)≠(((cd g (eR m i)).next.length:Nat):Int) by omega),mL,p1,p2,p4,p5,p8];refine bE (af ?_);refine aQ (oW H hxp1 hyp1 (by have:=G.pay i hlt;omega)) ?_;rintro _ Y ⟨rfl,hY⟩;by_cases q3:(cd g i).pay=(cd g (eR m i)).pay;rotate_left
   ·refine dy @eF (Aa q3) @Cb p1 p2 p4 p5 p8 ?_;exact⟨hY,true,rfl,fun _ h=>q3 h.2.2.1,fun _=>rfl⟩
   have hgxY:Y.h.get (X.nx+13)=_:=(hY.2 _ lx1).trans hgx;have hgyY:Y.h.get (X.nx+14)=_:=(hY.2 _ ly1).trans hgy;simp only[↓sU,sD,rE,↓reduceIte,rA,eF,Ab q3,Bt,aF,aE,dL hgxY,dL hgyY,p1,p2,p4,p5,p8];refine⟨hY,_,rfl,?_⟩;rw[Cq];exact⟨fun h hl=>h hl.2.2.2,fun h he=>h ⟨q1,q2,q3,he⟩⟩
  clear p1 p2 p4 p5 p8;rintro o ⟨F,inr⟩ Y ⟨rfl,q0,hY,hP,t,p87,hLt⟩;simp only at q0 hP p87;subst q0;have⟨p1,p2,p4,p5,p8,p9,p10⟩:=hP;have sXY:=sX1.trans hY;have sSY:=hX.trans sXY;refine af ?_;cases t with
  | true=>
   refine aM (ai p87) ?_;refine bQ (af ?_);refine aR (af ?_);refine .inr ⟨sSY,aJk hlt (hLt.1 rfl),?_⟩;simp only[↓sU,sD,rE,↓reduceIte,rA]
  | false=>
  have hL:aCp g m i:=Classical.byContradiction fun h=>by have:=hLt.2 h;cases this
  refine aK (ai p87) (aH ?_);simp only[↓sU,sD,rE,↓reduceIte,rA];clear p87 hLt;have gvY:=gv.step sXY;have gwY:=gw.step sXY;have hRY:=hR.same sXY;have hgxY:=(hY.2 _ lx1).trans hgx;have hgyY:=(hY.2 _ ly1).trans hgy;have lxY:X.nx+13<Y.nx:=Ae lx1 hY.1;have lyY:X.nx+14<Y.nx:=Ae ly1 hY.1;clear hgx hgy hX1 hX1n;refine bQ (af ?_);refine aA (aW (Q:=fun o A' Z=>(o= .normal/\A'.inr=false/\Y.nx<=Z.nx/\Same S1 Z/\(∃I',fX 1 S1 Z v g.bn.length (bJ I')/\fX 1 S1 Z w g.bn.length cs/\yJ S1 Z bs cs As/\Seen g m (fun j=>j<i\/j=i) (fun j _=>j<i) I' As)/\mL A'.F S.nx (X.nx+13) (X.nx+14) mv v w i/\Z.h.get (X.nx+13)=Y.h.get (X.nx+13)/\Z.h.get (X.nx+14)=Y.h.get (X.nx+14)/\∃kn,aD 11 A'.F= .bool kn/\((cd g i).kind=2->(kn=true↔∃j,j<i/\(cd g j).kind=2/\(cd g j).info=(cd g i).info))/\((cd g i).kind≠2->kn=false))\/(o= .ret/\aC9 S1 g m A' Z)) (aA (aG ?_)) ?_)
  ·refine dk p9 @aF @aE (eG hgxY) ?_;by_cases hk:(cd g i).kind=2;rotate_left
   ·refine aK (fg (Aa hk)) (aH ?_);refine .inl ⟨rfl,rfl,Ag _,sSY,⟨I,gvY,gwY,hRY,hS.node hL hk⟩,?_,rfl,rfl,false,ag,fun h=>absurd h hk,fun _=>rfl⟩;simp only[↓sU,sD,rE,↓reduceIte,rA,mL,p1,p2,p4,p5,p8,p9,p10]
   refine aM (fg (Ab hk)) ?_;have⟨a1,a2,a3⟩:=G.inf i hlt hk;have hs:(cd g i).info.toNat<g.bn.length:=by omega
   have hsI:(cd g i).info.toNat<I.length:=by rw[hS.li];exact hs
   have hni:=oZ (k:=.i64) a1;rcases gvY with⟨_,h0',_⟩ | ⟨vb,hv,hvb0,hvb1,hvb2,hvb3⟩
   ·rw[h0'] at hs;exact absurd hs (Cf _)
   have hia:=eX (b:=vb) (o:=true) hs;have hld:=aAY hvb2 hsI;refine bQ ?_;simp only[↓sU,sD,rE,↓reduceIte,rA,p4,p9,aF,aE,dE hgxY,hni,hv,hia,hld];have hknow:0<=I.getD (cd g i).info.toNat 0↔∃j,j<i/\(cd g j).kind=2/\(cd g j).info=(cd g i).info:=by
    constructor
    ·intro h;have⟨j,b1,b2,b3,b4⟩:=hS.iw _ hs h;exact⟨j,b2,b3,ay⟩
    ·rintro⟨j,b2,b3,b4⟩;have:=hS.iv j ay b2 b3;rw[<-b4,this];exact(pU G M ay (hS.lk j ay b2) b3).1
   refine aA (aW (Q:=fun o A' Z=>(o= .normal/\A'.inr=false/\Z=⟨Y.h,Y.nx+11⟩/\mL A'.F S.nx (X.nx+13) (X.nx+14) mv v w i/\aD 11 A'.F= .bool (decide (0<=I.getD (cd g i).info.toNat 0))/\(0<=I.getD (cd g i).info.toNat 0->I.getD (cd g i).info.toNat 0=(cd g (eR m i)).info))\/(o= .ret/\aC9 S1 g m A' Z)) (aA (iJ ?_)) ?_)
   ·by_cases hkn:0<=I.getD (cd g i).info.toNat 0
    ·simp only[↓sU,sD,rE,↓reduceIte,rA,p4,p9,p10,aF,aU,aE,dE hgxY,dE hgyY,hni,hv,hia,hld,Ab (show I.getD (cd g i).info.toNat 0≥0 from hkn)];by_cases he:I.getD (cd g i).info.toNat 0=(cd g (eR m i)).info
     ·refine aK (fg (Aa (show ¬I.getD (cd g i).info.toNat 0≠(cd g (eR m i)).info from fun h=>h he))) (aH ?_);refine .inl ⟨rfl,rfl,rfl,?_,?_,fun _=>he⟩
      ·simp only[↓sU,sD,rE,↓reduceIte,rA,mL,p1,p2,p4,p5,p8,p9,p10,hv]
      ·simp only[↓sU,sD,rE,↓reduceIte,rA,Ab hkn]
     ·refine aM (fg (Ab (show I.getD (cd g i).info.toNat 0≠(cd g (eR m i)).info from he))) ?_;refine bQ (af ?_);refine aR ?_;refine .inr ⟨rfl,sSY.trans (Same.nx _ _),hS.no_info G hlt hk hkn he,?_⟩;simp only[↓sU,sD,rE,↓reduceIte,rA]
    ·refine cm (Aa (show ¬I.getD (cd g i).info.toNat 0≥0 from hkn)) ?_;refine aK (ag) (aH ?_);refine .inl ⟨rfl,rfl,rfl,?_,?_,fun h=>absurd h hkn⟩
     ·simp only[↓sU,sD,rE,↓reduceIte,rA,mL,p1,p2,p4,p5,p8,p9,p10,hv]
     ·simp only[↓sU,sD,rE,↓reduceIte,rA,Aa hkn]
   clear p1 p2 p4 p5 p8 p9 p10;rintro o ⟨F,inr⟩ Z (⟨rfl,q0,rfl,hP,p11,hke⟩ | ⟨rfl,hf⟩);rotate_left
   ·refine af ?_;exact .inr hf
   simp only at q0 hP p11;subst q0;have⟨p1,p2,p4,p5,p8,p9,p10⟩:=hP;refine af ?_;refine aG ?_;simp only[↓sU,sD,rE,↓reduceIte,rA,p4,p9,p10,aF,aE,dE hgxY,dE hgyY,hni,hv,hia];refine fD (fun call=>by refine df @dS @cH ?_;exact sP (S:=⟨Y.h,Y.nx+11⟩) hvb2 hsI) ?_;refine af ?_;have hvw':aX w≠some vb:=hvw vb (by rw[hv];rfl);have hvbX:vb<X.nx:=by
    rcases gv with⟨h,_⟩ | ⟨vb',h,_,h2,_⟩
    ·rw[h] at hv;cases hv
    ·rw[h] at hv;cases hv;exact h2
   refine .inl ⟨ay,⟨by have:=sSY.1;simp only;omega,fun c hc=>?_⟩,⟨_,.inr ⟨vb,rfl,hvb0,Ae hvb1 (Cc _ _),fq,by unfold bJ at hvb3 ⊢;rw[Ay] at hvb3 ⊢;rw[Ar];exact hvb3⟩,gwY.move (Cc _ _) (fun c hc=>?_),hRY.move (Cc _ _) (fun j hj=>?_),hS.nodeM G M hlt hL hk hke⟩,?_,?_,?_,decide (0<=I.getD (cd g i).info.toNat 0),ai p11,fun _=>?_,fun h=>absurd hk h⟩
   ·simp only;rw[dd,if_neg ay];exact sSY.2 c hc
   ·simp only;rw[dd,if_neg (fun e=>hvw' (by rw[hc,e]))]
   ·simp only;rw[dd,if_neg (aJz (hRY.bl j hj).2.2 hvb2)]
   ·simp only[↓sU,sD,rE,↓reduceIte,rA,mL,p1,p2,p4,p5,p8,p9,p10,hv]
   ·try simp only
    rw[dd,if_neg ay]
   ·try simp only
    rw[dd,if_neg ay]
   ·rw[Cq];exact hknow
  clear p1 p2 p4 p5 p8 p9 p10;rintro o ⟨F,inr⟩ Z (⟨rfl,q0,hYZ,sSZ,⟨I',gvZ,gwZ,hRZ,hSZ⟩,hP,ex,ey,kn,p11,hkn,hkf⟩ | ⟨rfl,hf⟩);rotate_left
  ·refine af ?_;exact .inr hf
  simp only at q0 hP p11;subst q0;have hbs:∀s,s<g.bn.length->bs s<X.nx:=fun s hs=>(hR.bl s (by rw[hS.la];exact hs)).2.1;have hcr:∀c∈(cd g i).next,0<=c/\c<g.bk.length:=fun c hc=>by
   have⟨T,_,hTl,hW⟩:=G.walk;have:=hW.cf i ay c (by rw[An,gS];exact hc);omega
  rw[hgxY] at ex;rw[hgyY] at ey;clear gvY gwY hRY hgxY hgyY gv gw hR hS hY sXY sSY ia la;have⟨p1,p2,p4,p5,p8,p9,p10⟩:=hP;refine af ?_;refine bQ (af ?_);refine aW (Q:=fun o A' W=>(o= .normal/\aQY S1 S.nx (X.nx+13) (X.nx+14) mv v w cs bs g m i kn (Z.h.get (X.nx+13)) (Z.h.get (X.nx+14)) 0 A' W)\/(o= .ret/\aC9 S1 g m A' W)) (aL (bK (aQY S1 S.nx (X.nx+13) (X.nx+14) mv v w cs bs g m i kn (Z.h.get (X.nx+13)) (Z.h.get (X.nx+14))) ?_ (cd g i).next.length _ _ ⟨rfl,sSZ,ay,ay,0,I',As,ay,gvZ,gwZ,hRZ,hSZ.congr (fun _ _=>Iff.rfl) (fun j k' _ _ h=>ay),(by simp only[↓sU,sD,rE,↓reduceIte,rA,mL,p1,p2,p4,p5,p8,p9,p10]),rfl,rfl,(ai p11),(ag)⟩)) ?_
  ·clear p1 p2 p4 p5 p8 p9 p10 p11 gvZ gwZ hRZ hSZ sSZ;rintro k ⟨F,inr⟩ W ⟨q0,hW,lxW,lyW,kk,I,As,hkk,gv,gw,hR,hS,hP,exW,eyW,p11,p12⟩;simp only at q0 hP p11 p12;subst q0;rw[ex] at exW;rw[ey] at eyW;have⟨p1,p2,p4,p5,p8,p9,p10⟩:=hP;have sW:=s1.trans hW;have hxaW:=hxa.same sW;refine fE (dx p9 p12 @aF @aE (dI exW) hxaW.len @Ah ?_);by_cases hkl:kk<(cd g i).next.length;rotate_left
   ·refine aK fe (bG ?_);refine af ?_;have hk0:k=0:=by omega
    subst hk0;exact .inl ⟨rfl,hW,lxW,lyW,kk,I,As,hkk,gv,gw,hR,hS,(by simp only[↓sU,sD,rE,↓reduceIte,rA,mL,p1,p2,p4,p5,p8,p9,p10]),by rw[exW,ex],by rw[eyW,ey],(ai p11),(ai p12)⟩
   refine aM fe (aH ?_);refine af ?_;have hmW:=hm.same sW;have hcm:(cd g i).next.getD kk 0∈(cd g i).next:=by rw[Ad,Ac hkl];exact Bo _
   have⟨hc0,hcN⟩:=hcr _ hcm;have hiac:=hxaW.cn hkl;have hlac:=hxaW.ld hkl;have⟨b1,o1,hp1,lb1⟩:=bO.place hxaW hkl;rw[hp1] at hiac hlac;have hnc:=oZ (k:=.i64) hc0;have hcl:((cd g i).next.getD kk 0).toNat<m.length:=by rw[M.len];omega
   have hiam:=hmW.cn hcl;have hlam:=hmW.ld hcl;have⟨b2,o2,hp2,lb2⟩:=bO.place hmW hcl;rw[hp2] at hiam hlam;have hyaW:=hya.same sW;have hywW:=hyw.same sW;have hypW:=hyp.same sW;have sxa:=bO.self hxa;have smv:=bO.self hm;have w2:IntKind.i64.wrap ((kk:Int)+1)=((kk+1:Nat):Int):=by have:=G.nxt i hlt;rw[wrap_i64 ay ay];omega
   have hzz:mA (cd g (eR m i)).next 0 (m.getD ((cd g i).next.getD kk 0).toNat 0)=iM g m i kk:=rfl;refine aA (aL (aA (dO (fun _=>False) ?_)));intro W1 w1';simp only[↓sU,sD,rE,↓reduceIte,rA,p1,p9,p10,p12,aF,aU,aE,ldN eyW,dI exW,lxW,lyW,Ap,sy,sxa,aJ,hiac,hlac,lb1,hnc,hiam,hlam,lb2];refine cL rfl ?_;refine af ?_;refine aQ (aIx H ⟨ya,yw,yp,rfl,hyaW.same w1',hywW.same w1',hypW.same w1'⟩ (by have:=G.nxt _ htoN;omega)) ?_;rintro _ W2 ⟨rfl,hW2⟩;refine⟨hW2,?_⟩;rw[hzz];have sWW:=w1'.trans hW2;have sS2:=hW.trans sWW;have sW2:=s1.trans sS2;have exV:=(sWW.2 _ lxW).trans exW;have eyV:=(sWW.2 _ lyW).trans eyW;have gvV:=gv.step sWW;have gwV:=gw.step sWW;have hRV:=hR.same sWW;have lxV:X.nx+13<W2.nx:=Ae lxW sWW.1;have lyV:X.nx+14<W2.nx:=Ae lyW sWW.1;have hxwV:=hxw.same sW2;have hywV:=hyw.same sW2;clear hzz gv gw hR exW eyW lxW lyW hiac hlac hiam hlam hnc;generalize hzd:iM g m i kk=z at *;refine aA (aW (Q:=fun o A' V=>(o= .normal/\A'.inr=false/\V=⟨W2.h,W2.nx+35⟩/\mL A'.F S.nx (X.nx+13) (X.nx+14) mv v w i/\aD 11 A'.F= .bool kn/\aD 12 A'.F= .int .i64 (kk:Int)/\aD 13 A'.F= .int .i64 z/\0<=z/\aA2 g m i kk/\((cd g i).kind=2->kn=true->(As.getD (cd g i).info.toNat []).getD kk 0=z))\/(o= .ret/\aC9 S1 g m A' V)) (aA (iJ ?_)) ?_)
   ·by_cases c1:z<0
    ·refine cm (Ab c1) ?_;refine aM (ag) ?_;refine bQ (af ?_);refine aR ?_;refine .inr ⟨rfl,sS2.trans (Same.nx _ _),aNt hlt hkl (by rw[hzd];omega),?_⟩;simp only[↓sU,sD,rE,↓reduceIte,rA]
    have hz0:0<=z:=Int.not_lt.1 c1;have hnz:=oZ (k:=.i64) hz0;have hzl:z.toNat<(cd g (eR m i)).next.length:=by rw[<-hzd];exact aJm (by rw[hzd];exact hz0)
    by_cases k1:(cd g i).kind=1
    ·have k2:(cd g (eR m i)).kind=1:=by rw[<-hL.1];exact k1
     have l1:kk<(cd g i).weights.length:=by rw[G.wts i hlt k1];exact hkl
     have l2:z.toNat<(cd g (eR m i)).weights.length:=by rw[G.wts _ htoN k2];exact hzl
     have i1:=hxwV.cn l1;have i2:=hxwV.ld l1;have i3:=hywV.cn l2;have i4:=hywV.ld l2;have sxw:=bO.self hxw;have syw:=bO.self hyw;have hkn0:kn=false:=hkf ay;subst hkn0;by_cases c2:(cd g i).weights.getD kk 0=(cd g (eR m i)).weights.getD z.toNat 0
     ·simp only[↓sU,sD,rE,↓reduceIte,rA,Aa c1,p9,p10,p11,p12,aF,aU,aE,eG exV,dP exV,dP eyV,Ab k1,sxw,syw,aJ,hnz,i1,i2,i3,i4,Aa (show ¬ (cd g i).weights.getD kk 0≠(cd g (eR m i)).weights.getD z.toNat 0 from fun h=>h c2)];refine aK (ag) (aH ?_);refine .inl ⟨rfl,rfl,rfl,?_,?_,?_,?_,Int.not_lt.1 c1,fun _=>by rw[hzd];exact c2,fun h=>ay⟩
      ·simp only[↓sU,sD,rE,↓reduceIte,rA,mL,p1,p2,p4,p5,p8,p9,p10]
      ·simp only[↓sU,sD,rE,↓reduceIte,rA,p11]
      ·simp only[↓sU,sD,rE,↓reduceIte,rA,p12]
      ·simp only[↓sU,sD,rE,↓reduceIte,rA]
     ·simp only[↓sU,sD,rE,↓reduceIte,rA,Aa c1,p9,p10,p11,p12,aF,aU,aE,eG exV,dP exV,dP eyV,Ab k1,sxw,syw,aJ,hnz,i1,i2,i3,i4,Ab (show(cd g i).weights.getD kk 0≠(cd g (eR m i)).weights.getD z.toNat 0 from c2)];refine aM (ag) ?_;refine bQ (af ?_);refine aR ?_;refine .inr ⟨rfl,sS2.trans (Same.nx _ _),aGu hlt hkl (fun h=>c2 (by have:=h k1;rw[hzd] at this;exact this)),?_⟩;simp only[↓sU,sD,rE,↓reduceIte,rA]
    have hW0:aA2 g m i kk:=fun h=>absurd h k1;cases kn with
    | false=>
     refine dy (Aa c1) p9 p11 @aF @aU @aE (eG exV) (Aa k1) ?_;refine aK (ag) (aH ?_);refine .inl ⟨rfl,rfl,rfl,?_,?_,?_,?_,Int.not_lt.1 c1,hW0,fun _=>trivial⟩
     ·simp only[↓sU,sD,rE,↓reduceIte,rA,mL,p1,p2,p4,p5,p8,p9,p10]
     ·simp only[↓sU,sD,rE,↓reduceIte,rA,p11]
     ·simp only[↓sU,sD,rE,↓reduceIte,rA,p12]
     ·simp only[↓sU,sD,rE,↓reduceIte,rA]
    | true=>
     have hk:(cd g i).kind=2:=Decidable.byContradiction fun h=>by have:=hkf h;cases this
     have⟨a1,a2,a3⟩:=G.inf i hlt hk;have hni:=oZ (k:=.i64) a1;have hs:(cd g i).info.toNat<g.bn.length:=by omega
     have hsA:(cd g i).info.toNat<As.length:=by rw[hS.la];exact hs
     have hls:=hS.ls _ hs;rw[show(((cd g i).info.toNat:Nat):Int)=(cd g i).info by omega,a3] at hls;rcases gwV with⟨_,h0',_⟩ | ⟨wb,hw,hwb0,hwb1,hwb2,hwb3⟩
     ·rw[h0'] at hs;exact absurd hs (Cf _)
     have hia:=eX (b:=wb) (o:=true) hs;have hld:=cV hwb2 (hRV.cl _ hsA);have hb2:=(hRV.bl _ hsA).2.2;have hkA:kk<(As.getD (cd g i).info.toNat []).length:=by omega
     have hia2:=eX (b:=bs (cd g i).info.toNat) (o:=false) hkA;have hld2:=aAY hb2 hkA;have srow:cT (qU (bs (cd g i).info.toNat) (As.getD (cd g i).info.toNat [])) (qU (bs (cd g i).info.toNat) (As.getD (cd g i).info.toNat []))=true:=mR ..;unfold qU at hld srow;by_cases c3:(As.getD (cd g i).info.toNat []).getD kk 0=z
     ·simp only[↓sU,sD,rE,↓reduceIte,rA,Aa c1,p5,p9,p10,p11,p12,aF,aU,aE,eG exV,dE exV,Aa k1,hw,hni,hia,hld,srow,aJ,hia2,hld2,Aa (show ¬ (As.getD (cd g i).info.toNat []).getD kk 0≠z from fun h=>h c3)];refine aK (ag) (aH ?_);refine .inl ⟨rfl,rfl,rfl,?_,?_,?_,?_,Int.not_lt.1 c1,hW0,fun _=>c3⟩
      ·simp only[↓sU,sD,rE,↓reduceIte,rA,mL,p1,p2,p4,p5,p8,p9,p10,hw]
      ·simp only[↓sU,sD,rE,↓reduceIte,rA,p11]
      ·simp only[↓sU,sD,rE,↓reduceIte,rA,p12]
      ·simp only[↓sU,sD,rE,↓reduceIte,rA]
     ·simp only[↓sU,sD,rE,↓reduceIte,rA,Aa c1,p5,p9,p10,p11,p12,aF,aU,aE,eG exV,dE exV,Aa k1,hw,hni,hia,hld,srow,aJ,hia2,hld2,Ab (show(As.getD (cd g i).info.toNat []).getD kk 0≠z from c3)];have⟨j,j1,j2,j3⟩:=(hkn hk).1 rfl;refine aM (ag) ?_;refine bQ (af ?_);refine aR ?_;refine .inr ⟨rfl,sS2.trans (Same.nx _ _),hS.no_act G hlt ay hk j2 j3 hkl (.inl j1) (by rw[hzd];exact c3),?_⟩;simp only[↓sU,sD,rE,↓reduceIte,rA]
   clear p1 p2 p4 p5 p8 p9 p10 p11 p12;rintro o ⟨F,inr⟩ V (⟨rfl,q0,rfl,hP,p11,p12,p13,hz0,hwe,hac⟩ | ⟨rfl,hf⟩);rotate_left
   ·refine af ?_;exact .inr hf
   simp only at q0 hP p11 p12 p13;subst q0;have⟨p1,p2,p4,p5,p8,p9,p10⟩:=hP;refine af ?_;refine aW (Q:=fun o A' V=>o= .normal/\A'.inr=false/\Same S1 V/\W2.nx<=V.nx/\(∃As',fX 1 S1 V v g.bn.length (bJ I)/\fX 1 S1 V w g.bn.length cs/\yJ S1 V bs cs As'/\Seen g m (fun j=>j<i\/j=i) (fun j k'=>(j<i\/(j=i/\k'<kk))\/(j=i/\k'=kk)) I As')/\mL A'.F S.nx (X.nx+13) (X.nx+14) mv v w i/\V.h.get (X.nx+13)=W2.h.get (X.nx+13)/\V.h.get (X.nx+14)=W2.h.get (X.nx+14)/\aD 11 A'.F= .bool kn/\aD 12 A'.F= .int .i64 (kk:Int)) (aA (aG ?_)) ?_
   ·refine dk p9 @aF @aE (eG exV) ?_;by_cases hk:(cd g i).kind=2;rotate_left
    ·refine aK (fg (Aa hk)) (aH ?_);refine⟨rfl,rfl,sS2.trans (Same.nx _ _),Cc _ _,⟨As,gvV.step (Same.nx _ _),gwV.step (Same.nx _ _),hRV.same (Same.nx _ _),hS.kid (by rw[hzd];exact hz0) hwe hk⟩,?_,rfl,rfl,?_,?_⟩
     ·simp only[↓sU,sD,rE,↓reduceIte,rA,mL,p1,p2,p4,p5,p8,p9,p10]
     ·simp only[↓sU,sD,rE,↓reduceIte,rA,p11]
     ·simp only[↓sU,sD,rE,↓reduceIte,rA,p12]
    refine aM (fg (Ab hk)) ?_;have⟨a1,a2,a3⟩:=G.inf i hlt hk;have hni:=oZ (k:=.i64) a1;have hs:(cd g i).info.toNat<g.bn.length:=by omega
    have hsA:(cd g i).info.toNat<As.length:=by rw[hS.la];exact hs
    have hls:=hS.ls _ hs;rw[show(((cd g i).info.toNat:Nat):Int)=(cd g i).info by omega,a3] at hls;have hw':=gwV;rcases hw' with⟨_,h0',_⟩ | ⟨wb,hw,hwb0,hwb1,hwb2,hwb3⟩
    ·rw[h0'] at hs;exact absurd hs (Cf _)
    have hia:=eX (b:=wb) (o:=true) hs;have hld:=cV hwb2 (hRV.cl _ hsA);have hb2:=(hRV.bl _ hsA).2.2;have hb1:=(hRV.bl _ hsA).1;have hkA:kk<(As.getD (cd g i).info.toNat []).length:=by omega
    have hia2:=eX (b:=bs (cd g i).info.toNat) (o:=false) hkA;have hbX:=hbs _ hs;unfold qU at hld;refine aG ?_;simp only[↓sU,sD,rE,↓reduceIte,rA,p5,p9,p12,p13,aF,aE,dE exV,hw,hni,hia,hld,aJ,hia2];refine fD (fun call=>by refine df @dS @cH ?_;exact sP (S:=⟨W2.h,W2.nx+35⟩) hb2 hkA) ?_;refine af ?_;have hSk:=hS.kidM G hlt hkl (by rw[hzd];exact hz0) hwe hk fun j _ hj hkj e=>by rw[hzd];exact hac hk ((hkn hk).2 ⟨j,ay,hkj,e⟩)
    rw[hzd] at hSk;refine⟨(sS2.trans (Same.nx _ _)).put hb1 _,Cc _ _,⟨_,gvV.move (Cc _ _) (fun c hc=>?_),(by rw[<-hw];exact gwV.move (Cc _ _) (fun c hc=>by simp only;rw[dd,if_neg (Cx (aJz hb2 (gwV.blk hc).2.2))])),hRV.put hsA (Cc _ _),hSk⟩,?_,?_,?_,?_,?_⟩
    ·simp only;rw[dd,if_neg (Cx (aJz hb2 (gvV.blk hc).2.2))]
    ·simp only[↓sU,sD,rE,↓reduceIte,rA,mL,p1,p2,p4,p5,p8,p9,p10,hw]
    ·try simp only
     rw[dd,if_neg ay]
    ·try simp only
     rw[dd,if_neg ay]
    ·simp only[↓sU,sD,rE,↓reduceIte,rA,p11]
    ·simp only[↓sU,sD,rE,↓reduceIte,rA,p12]
   clear p1 p2 p4 p5 p8 p9 p10 p11 p12 p13;rintro o ⟨F,inr⟩ V ⟨rfl,q0,sSV,hVn,⟨As',gv',gw',hR',hS'⟩,hP,exV',eyV',p11,p12⟩;simp only at q0 hP p11 p12;subst q0;have⟨p1,p2,p4,p5,p8,p9,p10⟩:=hP;refine af ?_;refine aG (df p12 w2 ?_);refine⟨k - 1,ay,rfl,sSV,ay,ay,kk+1,I,As',ay,gv',gw',hR',hS'.congr (fun _ _=>Iff.rfl) (fun j k' _ _ h=>ay),?_,?_,?_,?_,?_⟩
   ·simp only[↓sU,sD,rE,↓reduceIte,rA,mL,p1,p2,p4,p5,p8,p9,p10]
   ·rw[exV',exV,ex]
   ·rw[eyV',eyV,ey]
   ·simp only[↓sU,sD,rE,↓reduceIte,rA,p11]
   ·simp only[↓sU,sD,rE,↓reduceIte,rA]
  clear p1 p2 p4 p5 p8 p9 p10 p11 gvZ gwZ hRZ hSZ sSZ;rintro o ⟨F,inr⟩ V (⟨rfl,q0,hV,_,_,kk,I2,As2,hkk,gv2,gw2,hR2,hS2,hP,_,_,p11,p12⟩ | ⟨rfl,hf⟩);rotate_left
  ·refine af ?_;exact .inr hf
  simp only at q0 hP;subst q0;have⟨p1,p2,p4,p5,p8,p9,p10⟩:=hP;refine af ?_;refine aG (df p8 w1 ?_);refine⟨k - 1,ay,rfl,hV,i+1,I2,As2,ay,gv2,gw2,hR2,hS2.congr (fun j _=>ay) (fun j k' _ hk' h=>?_),by refine⟨?_,?_,?_,?_,?_⟩<;>simp only[↓sU,sD,rE,↓reduceIte,rA,p1,p2,p4,p5]⟩;rcases Cd j i with h1 | h1
  ·exact .inl h1
  ·have e:j=i:=by omega
   subst e;exact .inr ⟨rfl,ay⟩
 rintro o ⟨F,inr⟩ Y (⟨rfl,q0,hY,i,I,As,hik,gv',gw',hR',hS,p1,p2,p4,p5,p8⟩ | ⟨rfl,hf⟩);rotate_left
 ·have⟨h1,h2,h3,h4,h5⟩:=hf;refine dh h3 h4 h5 ?_;exact⟨s1.trans h1,_,_,false,rfl,⟨fun h=>(by cases h),fun a=>absurd a h2⟩,fun h=>by cases h⟩
 simp only at q0 p4 p5;subst q0
 replace hS:Seen g m (fun _=>True) (fun _ _=>True) I As:=hS.congr (fun j hj=>⟨fun _=>trivial,fun _=>ay⟩) (fun j _ hj _ _=>ay)
 clear p8 hik hX gv gw hR;refine af ?_;refine aA (aW (Q:=fun o A' Z=>(o= .normal/\aRb Y v w I g.bn.length 0 A' Z)\/(o= .ret/\aC9 Y g m A' Z)) (aA (aG ?_)) ?_)
 ·refine af ?_;refine aL (bK (aRb Y v w I g.bn.length) ?_ g.bn.length _ _ ⟨rfl,de _,0,ay,fun a b _ ha=>ay,by refine⟨?_,?_,?_⟩<;>simp only[↓sU,sD,rE,↓reduceIte,rA,p4,p5]⟩);clear p4 p5;rintro k ⟨F,inr⟩ Z ⟨q0,hZ,i,hik,hd,p4,p5,p14⟩;simp only at q0 p4 p5 p14;subst q0;have hlen:=gv'.len;refine fE (dh p4 p14 hlen ?_);by_cases hlt:i<g.bn.length;rotate_left
  ·refine aK fe (bG ?_);refine af ?_;have hk0:k=0:=by omega
   subst hk0;exact .inl ⟨rfl,hZ,i,hik,hd,by refine⟨?_,?_,?_⟩<;>simp only[↓sU,sD,rE,↓reduceIte,rA,p4,p5,p14]⟩
  refine aM fe (aH ?_);refine af ?_;have w1:=dc i
  refine aA (aL (aA (aG ?_)));refine af ?_;refine aW (Q:=fun o A' V=>(o= .normal/\aR4 Z v w I i 0 A' V)\/(o= .ret/\aC9 Y g m A' V)) (aL (bK (aR4 Z v w I i) ?_ i _ _ ⟨rfl,de _,0,ay,fun b hb=>ay,by refine⟨?_,?_,?_,?_⟩<;>simp only[↓sU,sD,rE,↓reduceIte,rA,p4,p5,p14]⟩)) ?_
  ·clear p4 p5 p14;rintro k' ⟨F,inr⟩ V ⟨q0,hV,l,hlk,hd',p4,p5,p14,p15⟩;simp only at q0 p4 p5 p14 p15;subst q0;refine fE (df p14 p15 ?_);by_cases hl:l<i;rotate_left
   ·refine aK fe (bG ?_);refine af ?_;have hk0:k'=0:=by omega
    subst hk0;exact .inl ⟨rfl,hV,l,hlk,hd',by refine⟨?_,?_,?_,?_⟩<;>simp only[↓sU,sD,rE,↓reduceIte,rA,p4,p5,p14,p15]⟩
   refine aM fe (aH ?_);refine af ?_;have gvV:=gv'.step (hZ.trans hV);have w2:=dc l
   rcases gvV with⟨_,h0',_⟩ | ⟨vb,hv,_,_,hvb2,_⟩
   ·rw[h0'] at hlt;exact absurd hlt (Cf _)
   have ll:l<g.bn.length:=by omega
   have hi1:=eX (b:=vb) (o:=true) hlt;have hi2:=eX (b:=vb) (o:=true) ll;have hl1:=aAY hvb2 (show i<I.length by rw[hS.li];exact hlt);have hl2:=aAY hvb2 (show l<I.length by rw[hS.li];exact ll);refine aA (aL (aA (iJ ?_)));simp only[↓sU,sD,rE,↓reduceIte,rA,p4,p14,p15,hv,aJ,hi1,hi2,hl1,hl2];by_cases he:I.getD i 0=I.getD l 0
   ·refine aM (fg (Ab he)) ?_;refine bQ (af ?_);refine aR ?_;refine .inr ⟨rfl,(hZ.trans hV).trans (Same.nx _ _),hS.no_inj G hlt ll ay he,?_⟩;simp only[↓sU,sD,rE,↓reduceIte,rA]
   ·refine aK (fg (Aa he)) (aH ?_);refine af ?_;refine aG (df p15 w2 ?_);refine⟨k' - 1,ay,rfl,hV.trans (Same.nx _ _),l+1,ay,fun b hb=>?_,by refine⟨?_,?_,?_,?_⟩<;>simp only[↓sU,sD,rE,↓reduceIte,rA,p4,hv,p5,p14]⟩;by_cases hbl:b=l
    ·rw[hbl];exact he
    ·exact hd' b ay
  clear p4 p5 p14;rintro o ⟨F,inr⟩ V (⟨rfl,q0,hV,l,hlk,hd',p4,p5,p14,p15⟩ | ⟨rfl,hf⟩);rotate_left
  ·refine af ?_;exact .inr hf
  simp only at q0 p4 p5 p14;subst q0;refine af ?_;refine aG (df p14 w1 ?_);refine⟨k - 1,ay,rfl,hZ.trans hV,i+1,ay,fun a b hb ha=>?_,by refine⟨?_,?_,?_⟩<;>simp only[↓sU,sD,rE,↓reduceIte,rA,p4,p5]⟩;by_cases hai:a=i
  ·rw[hai];exact hd' b ay
  ·exact hd a b hb ay
 clear p4 p5;rintro o ⟨F,inr⟩ Z (⟨rfl,q0,hZ,i,hik,hd,p4,p5,p14⟩ | ⟨rfl,hf⟩);rotate_left
 ·have⟨h1,h2,h3,h4,h5⟩:=hf;refine dh h3 h4 h5 ?_;exact⟨s1.trans (hY.trans h1),_,_,false,rfl,⟨fun h=>(by cases h),fun a=>absurd a h2⟩,fun h=>by cases h⟩
 simp only at q0 p4 p5;subst q0;refine af ?_;refine bQ (df p4 p5 ?_);refine aR (af ?_);have hi0:i=g.bn.length:=by omega
 subst hi0;have hA:=hS.auto G h0 (hS.inj G hd);refine⟨s1.trans (hY.trans hZ),v,w,true,rfl,⟨fun _=>hA,fun _=>rfl⟩,fun _=>⟨?_,cs,bs,(gw'.step hZ).low s1.1,?_⟩⟩
 ·rw[<-hS.cw G];exact(gv'.step hZ).low s1.1
 ·rw[<-hS.c8 G];exact(hR'.same hZ).low s1.1
structure iO(g:bD)(m:bu)(n e:Nat)(I F:bu)(A:bt):Prop where
 s:Seen g m (fun j=>j<n) (fun j k=>(cd g j).next.getD k 0<(e:Int)) I A
 lf:F.length=g.bn.length
 fv:∀j,j<g.bk.length->j<n->(cd g j).kind=2->F.getD (cd g (eR m j)).info.toNat 0=(cd g j).info
 fw:∀t,t<g.bn.length->0<=F.getD t 0->∃j,j<g.bk.length/\j<n/\(cd g j).kind=2/\(cd g (eR m j)).info=(t:Int)
 aw:∀s,s<g.bn.length->∀k,k<(A.getD s []).length->0<=(A.getD s []).getD k 0->∃j,j<g.bk.length/\(cd g j).kind=2/\(cd g j).info=(s:Int)/\k<(cd g j).next.length/\(cd g j).next.getD k 0<(e:Int)
section
variable {g:bD}{m:bu}{I F:bu}{A:bt}{n e:Nat}
theorem iO.node(h:iO g m n e I F A)(hl:aCp g m n)(hk:(cd g n).kind≠2):iO g m (n+1) e I F A:=
 ⟨(h.s.node hl hk).congr (fun j _=>ay) (fun _ _ _ _ h=>h),h.lf,fun j hj hn hkj=>by
  by_cases e:j=n
  ·rw[e] at hkj;exact absurd hkj hk
  ·exact h.fv j hj ay hkj,fun t ht h0=>by have⟨j,a,b,c⟩:=h.fw t ht h0;exact⟨j,a,ay,c⟩,h.aw⟩
theorem iO.nodeM(G:eY g)(M:qH g m)(h:iO g m n e I F A)(hi:n<g.bk.length)(hl:aCp g m n)(hk:(cd g n).kind=2)(hI:0<=I.getD (cd g n).info.toNat 0->I.getD (cd g n).info.toNat 0=(cd g (eR m n)).info)(hF:0<=F.getD (cd g (eR m n)).info.toNat 0->F.getD (cd g (eR m n)).info.toNat 0=(cd g n).info):
  iO g m (n+1) e (I.set (cd g n).info.toNat (cd g (eR m n)).info) (F.set (cd g (eR m n)).info.toNat (cd g n).info) A:=by
 have⟨b1,b2⟩:=pU G M hi hl hk;have hlt:(cd g (eR m n)).info.toNat<F.length:=by rw[h.lf];omega
 refine⟨(h.s.nodeM G M hi hl hk hI).congr (fun j _=>ay) (fun _ _ _ _ h=>h),by rw[Ar];exact h.lf,fun j hj hn hkj=>?_,fun t ht h0=>?_,h.aw⟩
 ·rw[nI hlt];by_cases e:j=n
  ·rw[e,if_pos rfl]
  ·have hv:=h.fv j hj ay hkj;split
   ·rename_i e2;have:=(pU G M hj (h.s.lk j hj ay) hkj);have e3:(cd g (eR m n)).info=(cd g (eR m j)).info:=by omega
    rw[<-e3] at hv;rw[<-hF (by rw[hv];exact(G.inf j hj hkj).1),hv]
   ·exact hv
 ·rw[nI hlt] at h0;split at h0
  ·exact⟨n,hi,ay,hk,ay⟩
  ·have⟨j,a,b,c⟩:=h.fw t ht h0;exact⟨j,a,ay,c⟩
theorem eY.kids(G:eY g):∀j,j<g.bk.length->∀k,k<(cd g j).next.length->(j:Int)<(cd g j).next.getD k 0/\(cd g j).next.getD k 0<g.bk.length:=fun j hj k hk=>by
 have⟨T,_,hTl,hW⟩:=G.walk;have hm:(cd g j).next.getD k 0∈(cd g j).next:=by rw[Ad,Ac hk];exact Bo _
 have:=hW.cf j ay _ (by rw[An,gS];exact hm);omega
theorem eY.only(G:eY g){j k j' k':Nat}(hj:j<g.bk.length)(hk:k<(cd g j).next.length)(hj':j'<g.bk.length)(hk':k'<(cd g j').next.length)(e:(cd g j).next.getD k 0=(cd g j').next.getD k' 0):j=j'/\k=k':=by
 have⟨T,_,hTl,hW⟩:=G.walk;have mem:∀ {j k:Nat},k<(cd g j).next.length->(cd g j).next.getD k 0∈(cd g j).next:=fun {j k} hk=>by rw[Ad,Ac hk];exact Bo _
 have h1:=(hW.cf j ay _ (by rw[An,gS];exact mem hk)).2.2;have h2:=(hW.cf j' ay _ (by rw[An,gS];exact mem hk')).2.2;rw[e,h2] at h1;have hjj:j=j':=by have:=Bl h1;omega
 subst hjj;have hinc:=hW.inc j ay;rw[An,gS] at hinc;refine⟨rfl,?_⟩;rw[Ad,Ad,Ac hk,Ac hk'] at e;have e:(cd g j).next[k]=(cd g j).next[k']:=e;rcases Dt k k' with h | h | h
 ·have:=Dw.1 hinc k k' hk hk' h;omega
 ·exact h
 ·have:=Dw.1 hinc k' k hk' hk h;omega
theorem iO.kid(G:eY g)(h:iO g m n n I F A){i k:Nat}(hi:i<g.bk.length)(hkl:k<(cd g i).next.length)(hc:(cd g i).next.getD k 0=(n:Int))(h0:0<=iM g m i k)(hw:aA2 g m i k)(hk:(cd g i).kind≠2):iO g m n (n+1) I F A:=
 ⟨(h.s.kid h0 hw hk).congr (fun _ _=>Iff.rfl) (fun j k' hj hk' h=>by
  by_cases e:(cd g j).next.getD k' 0=(n:Int)
  ·exact .inr (G.only hj hk' hi hkl (by rw[e,hc]))
  ·exact .inl ay),h.lf,h.fv,h.fw,fun s hs k hk h0=>by have⟨j,a,b,c,d,e⟩:=h.aw s hs k hk h0;exact⟨j,a,b,c,d,ay⟩⟩
theorem iO.kidM(G:eY g)(h:iO g m n n I F A){i k:Nat}(hi:i<g.bk.length)(hkl:k<(cd g i).next.length)(hc:(cd g i).next.getD k 0=(n:Int))(h0:0<=iM g m i k)(hw:aA2 g m i k)(hk:(cd g i).kind=2)
  (hA:0<=(A.getD (cd g i).info.toNat []).getD k 0->(A.getD (cd g i).info.toNat []).getD k 0=iM g m i k):iO g m n (n+1) I F (A.set (cd g i).info.toNat ((A.getD (cd g i).info.toNat []).set k (iM g m i k))):=by
 have⟨a1,a2,a3⟩:=G.inf i hi hk;have hlt:(cd g i).info.toNat<A.length:=by rw[h.s.la];omega
 have hls:=h.s.ls (cd g i).info.toNat ay;rw[show(((cd g i).info.toNat:Nat):Int)=(cd g i).info by omega,a3] at hls;refine⟨(h.s.kidM G hi hkl h0 hw hk fun j hj hWj hkj e=>?_).congr (fun _ _=>Iff.rfl) (fun j k' hj hk' h=>?_),h.lf,h.fv,h.fw,fun s hs k' hk' h0'=>?_⟩
 ·have b3:=(G.inf j hj hkj).2.2;rw[e,a3] at b3;have⟨c1,_,c3⟩:=h.s.kd j k hj ay hWj;have:=c3 hkj;rw[e] at this;exact hA (by rw[this];exact c1)
 ·by_cases e:(cd g j).next.getD k' 0=(n:Int)
  ·exact .inr (G.only hj hk' hi hkl (by rw[e,hc]))
  ·exact .inl ay
 ·have hold:k'<(A.getD s []).length->0<=(A.getD s []).getD k' 0->∃j,j<g.bk.length/\(cd g j).kind=2/\(cd g j).info=(s:Int)/\k'<(cd g j).next.length/\(cd g j).next.getD k' 0<((n+1:Nat):Int):=fun h1 h2=>by
   have⟨j,a,b,c,d,e⟩:=h.aw s hs k' h1 h2;exact⟨j,a,b,c,d,ay⟩
  rw[tK hlt] at hk' h0';split at hk'
  ·rename_i e;rw[if_pos e] at h0';rw[Ar] at hk';rw[nI ay] at h0';split at h0'
   ·rename_i e2;subst e2;exact⟨i,hi,hk,by clear hold hA h0' hk' h;omega,hkl,by rw[hc];exact Int.ofNat_lt.2 (Ea n)⟩
   ·rw[e] at hk' h0';exact hold hk' h0'
  ·rename_i e;rw[if_neg e] at h0';exact hold hk' h0'
theorem iO.no_from(h:iO g m n e I F A)(G:eY g)(M:qH g m){i:Nat}(hi:i<g.bk.length)(hl:aCp g m i)(hk:(cd g i).kind=2)(h0:0<=F.getD (cd g (eR m i)).info.toNat 0)(h1:F.getD (cd g (eR m i)).info.toNat 0≠(cd g i).info):¬iB g m:=fun a=>by
 have⟨b1,b2⟩:=pU G M hi hl hk;have⟨j,c1,c2,c3,c4⟩:=h.fw _ ay h0;have e:(cd g (eR m j)).info=(cd g (eR m i)).info:=by omega
 have:=h.fv j c1 c2 c3;rw[e] at this;exact h1 (this.trans (a.inj j i c1 hi c3 hk e))
theorem iO.no_act(h:iO g m n e I F A)(G:eY g){i k:Nat}(hi:i<g.bk.length)(hk:(cd g i).kind=2)(hkl:k<(cd g i).next.length)(h0:0<=(A.getD (cd g i).info.toNat []).getD k 0)(h1:(A.getD (cd g i).info.toNat []).getD k 0≠iM g m i k):¬iB g m:=by
 have⟨a1,a2,a3⟩:=G.inf i hi hk;have hls:=h.s.ls (cd g i).info.toNat ay;rw[show(((cd g i).info.toNat:Nat):Int)=(cd g i).info by omega,a3] at hls;have⟨j,b1,b2,b3,b4,b5⟩:=h.aw (cd g i).info.toNat ay k ay h0;exact h.s.no_act G hi b1 hk b2 ay hkl b5 h1
def aA5(g:bD):bt:=g.bn.map fun x=>List.replicate x.ca.toNat (-1)
theorem iO.start(G:eY g)(m:bu):iO g m 0 1 (List.replicate g.bn.length (-1)) (List.replicate g.bn.length (-1)) (aA5 g):=by
 have hrep:∀ (n t:Nat),t<n->¬0<=(List.replicate n (-1:Int)).getD t 0:=fun n t ht h0=>by
  rw[Ad,Cl,if_pos ht] at h0;exact absurd h0 bg
 have hun:∀s,s<g.bn.length->(aA5 g).getD s []=List.replicate (ce g (s:Int)).ca.toNat (-1):=fun s hs=>by
  unfold aA5 ce;rw[Ad,Bc,Ad,Ax,Ac hs];rfl
 refine⟨⟨Aq ..,by unfold aA5;rw[Ay],fun s hs=>?_,fun j _ hj=>ay,fun s hs h0=>absurd h0 (hrep _ _ hs),fun j _ hj=>ay,fun j k hj hk hw=>?_⟩,Aq ..,fun j _ hj=>ay,fun t ht h0=>absurd h0 (hrep _ _ ht),fun s hs k hk h0=>?_⟩
 ·have⟨f1,f2,f3⟩:=G.fst s hs;have hac:=(G.inf _ f1 f2).2.2;rw[f3] at hac;rw[hun s hs,Aq];omega
 ·have:=(G.kids j hj k hk).1;omega
 ·rw[hun s hs] at hk h0;rw[Aq] at hk;exact absurd h0 (hrep _ _ hk)
theorem iO.full(h:iO g m g.bk.length g.bk.length I F A)(G:eY g)(M:qH g m)(root:m.getD 0 0=0):iB g m/\I=cw g m/\A=c8 g m:=by
 have hS:Seen g m (fun _=>True) (fun _ _=>True) I A:=h.s.congr (fun j hj=>⟨fun _=>trivial,fun _=>hj⟩) fun j k hj hk _=>(G.kids j hj k hk).2;refine⟨hS.auto G root fun i j hi hj hki hkj e=>?_,hS.cw G,hS.c8 G⟩;rw[<-h.fv i hi hi hki,<-h.fv j hj hj hkj,e]
end
theorem aMx{g:bD}{m:bu}{T:List cK}(hW:WF (dN g) 0 (-1) T)(hT:T.length=g.bk.length)(M:qH g m){i k:Nat}(hi:i<g.bk.length)(hv:((cd g i).next.getD k 0).toNat<g.bk.length):
  ((T.map (·.1)).getD (eR m ((cd g i).next.getD k 0).toNat) 0=((eR m i:Nat):Int)->0<=iM g m i k/\iM g m i k=(lC g).getD (eR m ((cd g i).next.getD k 0).toNat) 0)/\((T.map (·.1)).getD (eR m ((cd g i).next.getD k 0).toNat) 0≠((eR m i:Nat):Int)->¬0<=iM g m i k):=by
 have⟨hve,hvN⟩:=M.at hv;have hti:=(M.at hi).2;unfold iM;rw[hve];generalize eR m ((cd g i).next.getD k 0).toNat=v at *;generalize eR m i=t at *;have hpar:(T.map (·.1)).getD v 0=(kH T v).getD 0:=by
  unfold kH;rw[Ad,Bc]
 have hsome:∃p,kH T v=some p:=by
  unfold kH;rw[Ac (ay:v<T.length)];exact⟨_,rfl⟩
 have⟨p,hp⟩:=hsome;rw[hpar,hp];constructor
 ·intro h;have h:p=(t:Int):=h;subst h;by_cases v0:v=0
  ·subst v0;rw[hW.root] at hp;have:=Bl hp;omega
  have⟨q,q1,q2,q3⟩:=hW.pf v ay ay;rw[hp] at q2;have hq:=Bl q2;have hqt:q=t:=by omega
  subst hqt;rw[An,An,gS] at q3;rcases oN (c:=((v:Nat):Int)) (l:=(cd g q).next) (s:=0) with⟨h1,h2⟩ | ⟨j,h1,h2,_⟩
  ·exact absurd q3 h2
  ·have hpl:=aJa hW hT hti (k:=j) (c:=((v:Nat):Int)) (by rw[gS];exact h2);rw[Ax] at hpl;rw[h1,hpl,An];exact⟨ay,rfl⟩
 ·intro h h0;have h:p≠(t:Int):=h;rcases oN (c:=((v:Nat):Int)) (l:=(cd g t).next) (s:=0) with⟨h1,h2⟩ | ⟨j,h1,h2,_⟩
  ·rw[h1] at h0;exact absurd h0 bg
  ·have:=(hW.cf t ay _ (by rw[An,gS];exact Bu h2)).2.2;rw[show((v:Nat):Int).toNat - 0=v by omega,hp,An] at this;exact h (Bl this)
end Go.Ev.Gl
