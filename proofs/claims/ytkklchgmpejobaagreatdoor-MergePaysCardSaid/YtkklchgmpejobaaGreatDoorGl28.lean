import Derived.Test.YtkklchgmpejobaaGreatDoorGl27
open Nat renaming reduceEqDiff → rE, reduceAdd → rA
set_option maxHeartbeats 16000000
set_option linter.unusedSimpArgs false
set_option linter.unusedVariables false
namespace Go.Ev.Gl
variable {fns:T cV}
def KzI(S:St)(g:Nat)(k:Nat)(A:bQ)(S':St):Prop:=A.inr=false∧S'.h=S.h∧S.nx≤S'.nx∧∃a b:Int,aD 0 A.F= .int .i64 a∧aD 1 A.F= .int .i64 b∧a.natAbs≤9223372036854775807∧b.natAbs≤9223372036854775807∧Nat.gcd a.natAbs b.natAbs=g∧b.natAbs=k
theorem aEy{S:St}{x y:Int}(H:Has fns)(hx:x.natAbs≤9223372036854775807)(hy:y.natAbs≤9223372036854775807):fR fns (.fn 33 [] []) [.int .i64 x,.int .i64 y] S fun r S'=>r= .int .i64 ((Nat.gcd x.natAbs y.natAbs:Nat):Int)∧Same S S':=by
 refine cE H.f33 (by simp) ?_;try simp only[↓sU,sD,rE,↓reduceIte,rA]
 refine cC ?_;try simp only[↓sU,sD,rE,↓reduceIte,rA]
 refine aC (bD (Q:=fun o A' S'=>o= .normal∧Same S S'∧∃a:Int,aD 0 A'.F= .int .i64 a∧a.natAbs≤9223372036854775807∧a.natAbs=Nat.gcd x.natAbs y.natAbs) ?_ ?_)
 ·refine aN (bT (KzI S (Nat.gcd x.natAbs y.natAbs)) ?_ y.natAbs _ _ ⟨rfl,rfl,Ag _,x,y,aq,aq,hx,hy,rfl,rfl⟩);rintro k ⟨F,inr⟩ S' ⟨q0,hh,hnx,a,b,p0,p1,ha,hb,hg,rfl⟩;simp only at q0 p0 p1;subst q0;refine iP ?_;simp only[↓sU,sD,rE,↓reduceIte,rA,p1];by_cases h0:b=0
  ·refine aO (by simp only[↓sU,sD,rE,↓reduceIte,rA,Aa (show ¬b≠0 from fun h=>h h0)]) (bK ?_);rw[h0] at hg;refine am ?_;refine⟨aKK hh hnx,a,au p0,ha,?_⟩;rw[←hg];exact(Nat.gcd_zero_right _).symm
  ·refine aR (by simp only[↓sU,sD,rE,↓reduceIte,rA,Ad (show b≠0 from h0)]) (aM ?_);try simp only[↓sU,sD,rE,↓reduceIte,rA]
   have hrem:=aEl (.p .int) (a:=a) (b:=b) h0;have hn:(a.tmod b).natAbs=a.natAbs % b.natAbs:=Int.natAbs_tmod a b;have hlt:=Nat.mod_lt a.natAbs (show 0<b.natAbs by omega);refine aN (kO ?_);simp only[↓sU,sD,rE,↓reduceIte,rA,p0,p1,hrem];refine⟨(a.tmod b).natAbs,by omega,rfl,hh,by simp;omega,b,a.tmod b,aq,aq,hb,by omega,?_,rfl⟩;rw[←hg,hn,Nat.gcd_comm a.natAbs b.natAbs,Nat.gcd_rec b.natAbs a.natAbs,Nat.gcd_comm]
 ·rintro o ⟨F,inr⟩ S' ⟨rfl,hS,a,p0,ha,hg⟩;simp only at p0;try simp only[↓sU,sD,rE,↓reduceIte,rA]
  have hw:IntKind.i64.wrap (-a)= -a:=wrap_i64 (by omega) (by omega);have hm:mx a (-a)=((Nat.gcd x.natAbs y.natAbs:Nat):Int):=by rw[←hg];unfold mx;split<;>omega
  refine cC ?_;simp only[↓sU,sD,rE,↓reduceIte,rA,p0,aGn,hw,aH7,jB,nR,aFL,hm];refine aU ?_;simp only[↓sU,sD,rE,↓reduceIte,rA];exact hS
structure aQ1(g:bH)(c:List Int):Prop where
 len:c.length=g.infos.length
 ok:∀i,i<g.infos.length→0≤c.getD i 0∧c.getD i 0<(infoAt g (i:Int)).actions
def CoI(S1:St)(gb db:Nat)(lv:AV)(dl:List Int)(g:bH)(k:Nat)(A:bQ)(X:St):Prop:=A.inr=false∧S1.nx≤X.nx∧(∀c,c<S1.nx→c≠db→X.h.get c=S1.h.get c)∧qJ X db lv dl∧∃ (i:Nat) (pv:AV) (l:List Int),i+k=g.infos.length∧l.length=i∧(∀j,j<i→0≤l.getD j 0∧l.getD j 0<(infoAt g (j:Int)).actions)∧gQ 1 S1 X pv i (bG l)∧aD 0 A.F= .ptr db 0∧aD 3 A.F= .ptr gb 0∧aD 5 A.F=pv∧aD 6 A.F= .int .i64 (i:Int)
theorem aKT{l:List Int}{x:Int}{j:Nat}:(l++ [x]).getD j 0=if j=l.length then x else l.getD j 0:=by
 rw[Ae,Ae];by_cases e:j=l.length
 ·rw[if_pos e,e,Aw (Ag _),Cu];rfl
 ·rw[if_neg e];by_cases h:j<l.length
  ·rw[Av h]
  ·rw[Bn (by rw[Ai,An];omega),Bn (by omega)]
theorem aD4{S:St}{db:Nat}{lv nv iv:AV}{dl:List Int}{g:bH}(H:Has fns)(hd:qJ S db lv dl)(hinf:∀X':St,S.nx≤X'.nx→(∀c,c<S.nx→c≠db→X'.h.get c=S.h.get c)→bB 2 fP X' iv g.infos)(hact:∀i,i<g.infos.length→1≤(infoAt g (i:Int)).actions∧(infoAt g (i:Int)).actions≤3)(hil:g.infos.length≤200):
  fR fns (.fn 12 [] []) [.ptr db 0,.agg [.int .i64 g.players,nv,iv]] S fun r Z=>bJ db S Z∧qJ Z db lv dl∧∃l,cD .i64 Z r l∧aQ1 g l∧∀c,aT r=some c→S.nx≤c:=by
 have ldb:=hd.lt;have hlow:=fun {c} (hc:aT lv=some c)=>dG hd.il hc;refine cE H.f12 (by simp) ?_;refine am ?_;refine cC ?_;refine eH (cs:=[.int .i64 g.players,nv,iv]) rfl ?_;intro S1 s1 n1 g1;simp only[↓sU,sD,rE,↓reduceIte,rA];have d1:qJ S1 db lv dl:=hd.move s1.1 (s1.2 _ ldb) fun c hc=>s1.2 c (hlow hc);refine cC ?_;refine am ?_;refine iP ?_;refine am ?_;refine bD (Q:=fun o A' X=>o= .normal∧CoI S1 S.nx db lv dl g 0 A' X) (aN (bT (CoI S1 S.nx db lv dl g) ?_ g.infos.length _ _ ⟨rfl,Ag _,fun _ _ _=>rfl,d1,0,.nilsl,[],by omega,rfl,fun j hj=>absurd hj (Dy j),.inl ⟨rfl,rfl,rfl⟩,aq,aq,aq,ar⟩)) ?_
 ·clear d1;rintro k ⟨F,inr⟩ X ⟨q0,nX,kX,dX,i,pv,l,hik,hll,hl,hg,p0,p3,p5,p6⟩;simp only at q0 p0 p3 p5 p6;subst q0;have cX:=(kX S.nx (by omega) (by omega)).trans g1;have iX:=hinf X (by omega) fun c hc hne=>(kX c (by omega) hne).trans (s1.2 c hc);refine iP ?_;simp only[↓sU,sD,rE,↓reduceIte,rA,p3,p6,aE,aF,yD cX,iX.len,Ak];by_cases hlt:i<g.infos.length;rotate_left
  ·refine aO (by simp only[↓sU,sD,rE,↓reduceIte,rA,Aa (show ¬ (i:Int)<((g.infos.length:Nat):Int) by omega)]) (bK ?_);simp only[↓sU,sD,rE,↓reduceIte,rA];obtain rfl:k=0:=by omega
   exact⟨rfl,nX,kX,dX,i,pv,l,hik,hll,hl,hg,by refine⟨?_,?_,?_,?_⟩<;>simp only[↓sU,sD,rE,↓reduceIte,rA,p0,p3,p5,p6]⟩
  refine aR (by simp only[↓sU,sD,rE,↓reduceIte,rA,Ad (show(i:Int)<((g.infos.length:Nat):Int) by omega)]) (aM ?_);try simp only[↓sU,sD,rE,↓reduceIte,rA]
  have w1:IntKind.i64.wrap ((i:Int)+1)=((i+1:Nat):Int):=by rw[wrap_i64 (by omega) (by omega)];omega
  obtain⟨a1,a2⟩:=hact i hlt;obtain⟨ei,bi,qi,hii,hbi,_,hei,_,hfi⟩:=bB.at iX (by decide) (aHk hlt);have hf1:=hfi 1 (.int .i64 (infoAt g (i:Int)).actions) (by rw[hei];rfl);refine aC (aN (aG ?_));simp only[↓aA,aB,rE,↓reduceIte,rA,p0,p3,p5,p6,aE,aF,yD cX,aH,hii,hf1];refine aY ?_;refine ah ?_;refine aP (lB H dX a1 (by omega)) ?_;rintro _ Y ⟨bY,dY,y,rfl,hy1,hy2⟩;try simp only[↓aA,aB,rE,↓reduceIte,rA]
  refine fX (kQ (n:=y) (k:=.i64) (ai)) ?_;intro U u1 m1 c1;have nY:=bY.1;have hgU:gQ 1 ⟨U.h,S1.nx⟩ U pv i (bG l):=(hg.move (S':=Y) nY fun c hc=>bY.2 c (hg.blk hc).2.1 (by have:=(hg.blk hc).1;omega)).step u1;obtain⟨pv',Z,eA,gA,bA,nA,rA⟩:=gQ.push1 (bytes:=8) (x:=.int .i64 y) hgU ⟨by have:=u1.1;show S1.nx≤U.nx;omega,fun _ _=>rfl⟩ c1 (by unfold room;omega) (by unfold room;omega);refine eR (v:=pv') (S1:=Z) (fun call=>by simp only[↓aA,aB,rE,↓reduceIte,rA,fJ];exact eA) ?_;refine ah ?_;refine aG ?_;simp only[↓sU,sD,rE,↓reduceIte,rA,p6,w1];have hpb:∀ {c},aT pv=some c→S1.nx≤c:=fun hc=>(hg.blk hc).1;have nU:=u1.1;have ldbX:=dX.lt;refine⟨k - 1,by omega,rfl,by omega,fun c hc hne=>?_,?_,i+1,pv',l++ [y],by omega,by rw[Ai,hll];rfl,fun j hj=>?_,?_,by refine⟨?_,?_,?_,?_⟩<;>simp only[↓sU,sD,rE,↓reduceIte,rA,p0,p3]⟩
  ·rw[rA c (by omega) (fun e=>by have:=hpb e;omega),u1.2 c (by omega),bY.2 c (by omega) hne];exact kX c hc hne
  ·refine dY.move (by omega) ?_ fun c hc=>?_
   ·rw[rA db (by omega) (fun e=>by have:=hpb e;omega)];exact u1.2 db (by omega)
   ·have:=hlow hc;rw[rA c (by omega) (fun e=>by have:=hpb e;omega)];exact u1.2 c (by omega)
  ·rw[aKT,hll];by_cases e:j=i
   ·subst e;rw[if_pos rfl];exact⟨hy1,hy2⟩
   ·rw[if_neg e];exact hl j (by omega)
  ·have e:bG (l++ [y])=bG l++ [.int .i64 y]:=by unfold bG;rw[Dc];rfl
   rw[e];exact gA
 rintro o ⟨F,inr⟩ X ⟨rfl,q0,nX,kX,dX,i,pv,l,hik,hll,hl,hg,p0,p3,p5,p6⟩;simp only at q0 p5;subst q0;obtain rfl:i=g.infos.length:=by omega
 try simp only[↓sU,sD,rE,↓reduceIte,rA]
 refine cC ?_;simp only[↓sU,sD,rE,↓reduceIte,rA,p5];refine aU ?_;refine am ?_;refine⟨⟨by omega,fun c hc hne=>(kX c (by omega) hne).trans (s1.2 c hc)⟩,dX,l,?_,⟨hll,hl⟩,fun c hc=>by have:=(hg.blk hc).1;omega⟩;rw[←hll] at hg;exact gQ.is hg
theorem aEw{l m:List Int}(h:l.length=m.length)(hg:∀j,j<l.length→l.getD j 0=m.getD j 0):l=m:=by
 refine Eb h fun j h1 h2=>?_;have:=hg j h1;rw[Ae,Ae,Ab h1,Ab h2] at this;exact this
def aOa(f:Nat→Rat):Nat→Rat
 | 0=>0
 | n+1=>aOa f n+f n
def aPd(f:Nat→Int):Nat→Int
 | 0=>0
 | n+1=>aPd f n+f n
def aAJ(c:List Int)(x:bU):Nat:=if x.info<c.length∧0≤c.getD x.info.toNat 0∧c.getD x.info.toNat 0<x.next.length then(c.getD x.info.toNat 0).toNat else 0
def aAh(g:bH)(c:List Int)(q:Nat):Nat→Nat→Rat
 | 0,_=>0
 | f+1,i=>
  if(nodeAt g i).kind=3 then(((nodeAt g i).pay.getD q 0:Int):Rat)
  else if(nodeAt g i).kind=2 then aAh g c q f ((nodeAt g i).next.getD (aAJ c (nodeAt g i)) 0).toNat
  else aOa (fun j=>(((nodeAt g i).weights.getD j 0:Int):Rat) * aAh g c q f ((nodeAt g i).next.getD j 0).toNat) (nodeAt g i).next.length / ((aPd (fun j=>(nodeAt g i).weights.getD j 0) (nodeAt g i).next.length:Int):Rat)
def fS:Nat→List Int→Nat
 | d,[]=>d
 | d,x::l=>fS (Nat.gcd d x.natAbs) l
theorem tO:∀ {l:List Int} {d:Nat},fS d l ∣ d∧∀x∈l,fS d l ∣ x.natAbs
 | [],d=>⟨Nat.dvd_refl _,fun x h=>by cases h⟩
 | y::l,d=>by
  obtain⟨h1,h2⟩:=tO (l:=l) (d:=Nat.gcd d y.natAbs);refine⟨Nat.dvd_trans h1 (Nat.gcd_dvd_left ..),fun x hx=>?_⟩;rcases Bi.1 hx with rfl | hx
  ·exact Nat.dvd_trans h1 (Nat.gcd_dvd_right ..)
  ·exact h2 x hx
theorem aDG:∀ {l:List Int} {d k:Nat},k ∣ d→(∀x∈l,k ∣ x.natAbs)→k ∣ fS d l
 | [],d,k,h,_=>h
 | y::l,d,k,h,h2=>aDG (l:=l) (Nat.dvd_gcd h (h2 y (Cd ..))) fun x hx=>h2 x (Bq _ hx)
theorem aDP{l:List Int}{d:Nat}(h:0<d):0<fS d l:=Nat.pos_of_dvd_of_pos tO.1 h
structure aGs(v:Nat→Rat)(n:Nat)(P:List Int)(d:Nat):Prop where
 len:P.length=n
 pos:0<d
 eq:∀q,q<n→((P.getD q 0:Int):Rat)=v q * (d:Int)
 low:fS d P=1
theorem aI7{v:Nat→Rat}{n:Nat}{P P':List Int}{d d':Nat}(h:aGs v n P d)(h':aGs v n P' d'):d ∣ d':=by
 have hm:∀q,q<n→P.getD q 0 * (d':Int)=P'.getD q 0 * (d:Int):=fun q hq=>by
  have e1:=h.eq q hq;have e2:=h'.eq q hq;have:((P.getD q 0 * (d':Int):Int):Rat)=((P'.getD q 0 * (d:Int):Int):Rat):=by
   rw[Eh,Eh,e1,e2]
   grind
  exact Rat.intCast_inj.1 this
 have key:d ∣ fS (d * d') (P.map (· * (d':Int))):=aDG (Nat.dvd_mul_right ..) fun x hx=>by
  obtain⟨y,hy,rfl⟩:=Dz.1 hx;obtain⟨q,hq,rfl⟩:=Eq.1 hy;have e:P.getD q 0=P[q]:=by rw[Ae,Ab hq];rfl
  have:=hm q (by rw[←h.len];exact hq);rw[e] at this;rw[this,Ga,Dr];exact Nat.dvd_mul_left ..
 have scale:∀ (l:List Int) (k:Nat),fS (k * d') (l.map (· * (d':Int)))=fS k l * d':=fun l=>by
  induction l with
  | nil=>intro k;rfl
  | cons x l ih=>
   intro k;show fS (Nat.gcd (k * d') (x * (d':Int)).natAbs) _=fS (Nat.gcd k x.natAbs) l * d';rw[Ga,Dr,Nat.gcd_mul_right,ih]
 rw[scale,h.low,Fm] at key;exact key
theorem aOf{v:Nat→Rat}{n:Nat}{P P':List Int}{d d':Nat}(h:aGs v n P d)(h':aGs v n P' d'):P=P'∧d=d':=by
 have hd:d=d':=Nat.dvd_antisymm (aI7 h h') (aI7 h' h);subst hd;refine⟨aEw (by rw[h.len,h'.len]) fun q hq=>?_,rfl⟩;have:=(h.eq q (by rw[←h.len];exact hq)).trans (h'.eq q (by rw[←h.len];exact hq)).symm;exact Rat.intCast_inj.1 this
def tT(j:Int):List dH→Nat→Nat
 | [],_=>0
 | t::L,a=>(if t.1=j then(t.2.2+1 - (a:Int)).toNat else 0)+tT j L (a+1)
theorem aCD{j:Int}:∀ {L M:List dH} {a:Nat},tT j (L++M) a=tT j L a+tT j M (a+L.length)
 | [],M,a=>by show tT j M a=0+tT j M (a+0);rw[Ao];rfl
 | t::L,M,a=>by
  show _+tT j (L++M) (a+1)=_+tT j L (a+1)+tT j M (a+(L.length+1));rw[aCD (L:=L),show a+1+L.length=a+(L.length+1) by omega,Cv]
theorem xN{j:Int}:∀ {L:List dH} {a:Nat},(∀t∈L,t.1≠j)→tT j L a=0
 | [],_,_=>rfl
 | t::L,a,h=>by
  show(if t.1=j then _ else 0)+tT j L (a+1)=0;rw[if_neg (h t (Cd ..)),xN fun t ht=>h t (Bq _ ht)]
structure KZ(r:Nat)(p:Int)(L:List dH):Prop where
 par:∀t∈L,t.1=p∨((r:Int)≤t.1∧t.1<((r+L.length:Nat):Int))
 sz:∀ (j:Nat) (t:dH),L[j]? =some t→t.2.2=((r+j+tT ((r+j:Nat):Int) L r:Nat):Int)∧t.2.2<((r+L.length:Nat):Int)
 all:tT p L r=L.length
 nest:∀ (j q:Nat) (t u:dH),L[j]? =some t→L[q]? =some u→j<q→((r+q:Nat):Int)≤t.2.2→((r+j:Nat):Int)≤u.1
theorem KZ.nil{r:Nat}{p:Int}:KZ r p []:=⟨fun t ht=>(by cases ht),fun j t h=>(by simp at h),rfl,fun j q t u h=>(by simp at h)⟩
theorem KZ.app{r:Nat}{p:Int}{L M:List dH}(hp:p<(r:Int))(h1:KZ r p L)(h2:KZ (r+L.length) p M):KZ r p (L++M):=by
 refine⟨fun t ht=>?_,fun j t hj=>?_,by rw[aCD,h1.all,h2.all,Ai],fun j q t u hj hq hlt hle=>?_⟩
 ·rw[Ai];rcases Bf.1 ht with h | h
  ·rcases h1.par t h with e | e
   ·exact .inl e
   ·exact .inr (by omega)
  ·rcases h2.par t h with e | e
   ·exact .inl e
   ·exact .inr (by omega)
 ·rw[Ai,aCD];by_cases hlt:j<L.length
  ·rw[Av hlt] at hj;obtain⟨a,b⟩:=h1.sz j t hj;rw[xN (L:=M) fun t ht=>by
    rcases h2.par t ht with e | e
    ·omega
    ·omega,Bs]
   exact⟨a,by omega⟩
  ·rw[Aw (by omega)] at hj;obtain⟨a,b⟩:=h2.sz (j - L.length) t hj;rw[show r+L.length+(j - L.length)=r+j by omega] at a;rw[xN (L:=L) fun t ht=>by
    rcases h1.par t ht with e | e
    ·omega
    ·omega,Ao]
   exact⟨a,by omega⟩
 ·by_cases hj1:j<L.length
  ·rw[Av hj1] at hj;have:=(h1.sz j t hj).2;rw[Av (by omega)] at hq;exact h1.nest j q t u hj hq hlt hle
  ·rw[Aw (by omega)] at hj hq;have:=h2.nest _ _ t u hj hq (by omega) (by rw[show r+L.length+(q - L.length)=r+q by omega];exact hle)
   rwa [show r+L.length+(j - L.length)=r+j by omega] at this
theorem aJi{rec:Nat→Option (List dH)}{p:Int}(hr:∀ (r:Nat) (L:List dH),p<(r:Int)→rec r=some L→KZ r p L):∀ {l:List Int} {r:Nat} {L:List dH},p<(r:Int)→iE rec l r=some L→KZ r p L
 | [],r,L,_,h=>by
  have h:some []=some L:=h;cases h;exact KZ.nil
 | c::l,r,L,hp,h=>by
  simp only[iE] at h;split at h
  ·obtain⟨L1,h1,h2⟩:=Dl.1 h;obtain⟨L2,h3,rfl⟩:=Au.1 h2;exact(hr r L1 hp h1).app hp (aJi hr (by omega) h3)
  ·cases h
theorem aFy{N:Nat}{nx:Nat→List Int}:∀ {f at_:Nat} {p d:Int} {T:List dH},p<(at_:Int)→iQ N nx f at_ p d=some T→KZ at_ p T
 | 0,_,_,_,_,_,h=>by cases h
 | f+1,at_,p,d,T,hp,h=>by
  simp only[iQ] at h;split at h
  ·obtain⟨L,h1,rfl⟩:=Au.1 h;have k:=aJi (p:=(at_:Int)) (fun r L hr hL=>aFy hr hL) (by omega) h1;refine⟨fun t ht=>?_,fun j t hj=>?_,?_,fun j q t u hj hq hlt hle=>?_⟩
   ·rw[Am];rcases Bi.1 ht with rfl | ht
    ·exact .inl rfl
    ·rcases k.par t ht with e | e
     ·exact .inr (by omega)
     ·exact .inr (by omega)
   ·rw[Am];cases j with
    | zero=>
     cases hj;rw[Bs];show((at_+L.length:Nat):Int)=((at_+((if p=((at_:Nat):Int) then _ else 0)+tT _ L (at_+1)):Nat):Int)∧_;rw[if_neg (by omega),Ao,k.all];exact⟨rfl,by show((at_+L.length:Nat):Int)<_;omega⟩
    | succ j=>
     obtain⟨a,b⟩:=k.sz j t hj;show t.2.2=((at_+(j+1)+((if p=((at_+(j+1):Nat):Int) then _ else 0)+tT _ L (at_+1)):Nat):Int)∧_;rw[if_neg (by omega),Ao,a,show at_+1+j=at_+(j+1) by omega];exact⟨rfl,by rw[←show at_+1+j=at_+(j+1) by omega,←a];omega⟩
   ·show(if p=p then(((at_+L.length:Nat):Int)+1 - (at_:Int)).toNat else 0)+tT p L (at_+1)=L.length+1;rw[if_pos rfl,xN fun t ht=>by
     rcases k.par t ht with e | e
     ·omega
     ·omega]
    omega
   ·obtain⟨q,rfl⟩:∃q',q=q'+1:=⟨q - 1,by omega⟩;cases j with
    | zero=>
     have hq':L[q]? =some u:=hq;rcases k.par u (Aq hq') with e | e
     ·omega
     ·omega
    | succ j=>
     have hj':L[j]? =some t:=hj;have hq':L[q]? =some u:=hq;have:=k.nest j q t u hj' hq' (by omega) (by rw[show at_+1+q=at_+(q+1) by omega];exact hle)
     rwa [show at_+1+j=at_+(j+1) by omega] at this
  ·cases h
def qV(T:List dH)(i:Nat):Nat:=match T[i]? with | some t=>(t.2.2+1 - (i:Int)).toNat | none=>0
section
variable {T:List dH}
theorem aIS(k:KZ 0 (-1) T){i:Nat}(hi:i<T.length):qV T i=1+tT (i:Int) T 0∧qV T i≤T.length∧i+qV T i≤T.length:=by
 obtain⟨a,b⟩:=k.sz i T[i] (Ab hi);have e:qV T i=(T[i].2.2+1 - (i:Int)).toNat:=by unfold qV;rw[Ab hi]
 rw[Ao] at a b;omega
end
theorem aBm{i:Int}:∀ {L:List dH} {T:List dH} {a:Nat},T.drop a=L→∀ (l:List Nat),l.Pairwise (· < ·)→(∀x∈l,a≤x∧∃t,T[x]? =some t∧t.1=i)→(l.map (qV T)).sum≤tT i L a
 | [],T,a,hd,l,_,hl=>by
  cases l with
  | nil=>exact Ag _
  | cons x l=>
   obtain⟨h1,t,h2,_⟩:=hl x (Cd ..);have:=(Af.1 h2).1;have h3:=Dh List.length hd;rw[Cq] at h3;simp only[Bo] at h3;omega
 | t::L,T,a,hd,l,hp,hl=>by
  have hlen:a<T.length:=by
   have h3:=Dh List.length hd;rw[Cq,Am] at h3;omega
  have e:=Di hlen;rw[hd] at e;injection e with e1 e2;show _≤(if t.1=i then(t.2.2+1 - (a:Int)).toNat else 0)+tT i L (a+1);cases l with
  | nil=>exact Bt _
  | cons x l=>
   obtain⟨hx1,u,hx2,hx3⟩:=hl x (Cd ..);have hp':=List.pairwise_cons.1 hp;by_cases hxa:x=a
   ·subst hxa;have ht:T[x]? =some t:=by rw[Ab hlen,e1]
    rw[ht] at hx2;cases hx2;rw[if_pos hx3,Cx,List.sum_cons];have ih:=aBm (i:=i) (T:=T) (a:=x+1) (L:=L) e2.symm l hp'.2 fun y hy=>⟨hp'.1 y hy,(hl y (Bq _ hy)).2⟩;have es:qV T x=(t.2.2+1 - (x:Int)).toNat:=by unfold qV;rw[ht]
    omega
   ·have ih:=aBm (i:=i) (T:=T) (a:=a+1) (L:=L) e2.symm (x::l) hp fun y hy=>by
     refine⟨?_,(hl y hy).2⟩;rcases Bi.1 hy with rfl | hy
     ·omega
     ·have:=hp'.1 y hy;omega
    omega
theorem aC0{T:List dH}{g:bH}(hT:lN g=some T)(hl:T.length=g.nodes.length){i:Nat}(hi:i<g.nodes.length):1+(((nodeAt g i).next.map Int.toNat).map (qV T)).sum≤qV T i:=by
 have hw:iQ g.nodes.length (iU g) (g.nodes.length+1) 0 (-1) 0=some T:=hT;have k:=aFy (by decide) hw;have hf:=yZ hw;have hnx:iU g (0+i)=(nodeAt g i).next:=by rw[Ao];exact pM g i
 obtain⟨e1,_⟩:=aIS k (show i<T.length by omega);have hinc:=hf.inc i (by omega);rw[hnx] at hinc;have hcf:=hf.cf i (by omega);rw[hnx] at hcf;have hpw:((nodeAt g i).next.map Int.toNat).Pairwise (· < ·):=by
  rw[List.pairwise_map];refine List.Pairwise.imp_of_mem (fun {a b} ha hb h=>?_) hinc;have:=hcf a ha;have:=hcf b hb;omega
 have:=aBm (i:=(i:Int)) (T:=T) (a:=0) (L:=T) rfl _ hpw fun x hx=>by
  obtain⟨y,hy,rfl⟩:=Dz.1 hx;obtain⟨_,h2,h3⟩:=hcf y hy;refine⟨Bt _,?_⟩;unfold pS at h3;rw[Nat.sub_zero,Au] at h3;obtain⟨t,a,b⟩:=h3;exact⟨t,a,by rw[b];omega⟩
 omega
theorem aEL{d e:Nat}(hd:0<d)(he:0<e):∃a b:Nat,0<a∧0<b∧0<Nat.gcd d e∧d=Nat.gcd d e * a∧e=Nat.gcd d e * b∧d / Nat.gcd d e=a∧e / Nat.gcd d e=b∧d / Nat.gcd d e * e=a * (Nat.gcd d e * b):=by
 have hg:0<Nat.gcd d e:=Nat.gcd_pos_of_pos_left _ hd;obtain⟨a,ha⟩:=Nat.gcd_dvd_left d e;obtain⟨b,hb⟩:=Nat.gcd_dvd_right d e;have h1:d / Nat.gcd d e=a:=by
  have:=Nat.mul_div_cancel_left a hg
  rwa [←ha] at this
 have h2:e / Nat.gcd d e=b:=by
  have:=Nat.mul_div_cancel_left b hg
  rwa [←hb] at this
 refine⟨a,b,?_,?_,hg,ha,hb,h1,h2,by rw[h1,←hb]⟩
 ·rcases Ca a with h | h
  ·rw[h] at ha;omega
  ·exact h
 ·rcases Ca b with h | h
  ·rw[h] at hb;omega
  ·exact h
theorem aL9{P p w s:Int}{d e:Nat}{S v:Rat}(hd:0<d)(he:0<e)(hP:((P:Int):Rat)=S * ((d:Nat):Int))(hp:((p:Int):Rat)=v * ((e:Nat):Int))(bP:P.natAbs≤3 * s.toNat * d)(bp:p.natAbs≤3 * e)(hs:0≤s)(hw:0≤w):
  ((P * ((e / Nat.gcd d e:Nat):Int)+w * p * ((d / Nat.gcd d e:Nat):Int):Int):Rat)=(S+((w:Int):Rat) * v) * ((d / Nat.gcd d e * e:Nat):Int)∧
  (P * ((e / Nat.gcd d e:Nat):Int)).natAbs≤3 * s.toNat * (d / Nat.gcd d e * e)∧(w * p).natAbs≤3 * w.toNat * (d / Nat.gcd d e * e)∧(w * p * ((d / Nat.gcd d e:Nat):Int)).natAbs≤3 * w.toNat * (d / Nat.gcd d e * e)∧
  (P * ((e / Nat.gcd d e:Nat):Int)+w * p * ((d / Nat.gcd d e:Nat):Int)).natAbs≤3 * (s+w).toNat * (d / Nat.gcd d e * e):=by
 obtain⟨a,b,ha,hb,hg,ed,ee,q1,q2,q3⟩:=aEL hd he;rw[q3,q1,q2];generalize Nat.gcd d e=k at ed ee hg;subst ed ee;have b1:(P * ((b:Nat):Int)).natAbs≤3 * s.toNat * (a * (k * b)):=by
  rw[Ga,Dr]
  calc P.natAbs * b≤3 * s.toNat * (k * a) * b:=Cm _ bP
   _=_:=by rw[Nat.mul_assoc,Nat.mul_comm k a,Nat.mul_assoc a k b]
 have b2:(w * p).natAbs≤3 * w.toNat * (k * b):=by
  rw[Ga]
  calc w.natAbs * p.natAbs≤w.natAbs * (3 * (k * b)):=Nat.mul_le_mul_left _ bp
   _=_:=by rw[←Nat.mul_assoc,Nat.mul_comm w.natAbs 3,show w.natAbs=w.toNat by omega]
 have b3:(w * p * ((a:Nat):Int)).natAbs≤3 * w.toNat * (a * (k * b)):=by
  rw[Ga,Dr]
  calc (w * p).natAbs * a≤3 * w.toNat * (k * b) * a:=Cm _ b2
   _=_:=by rw[Nat.mul_assoc,Nat.mul_comm (k * b) a]
 refine⟨?_,b1,?_,b3,?_⟩
 ·rw[Rat.intCast_add,Eh,Eh,Eh,hP,hp];simp only[Fv,Eh]
  grind
 ·exact Ap b2 (Nat.mul_le_mul_left _ (Nat.le_mul_of_pos_left _ ha))
 ·have:3 * (s+w).toNat * (a * (k * b))=3 * s.toNat * (a * (k * b))+3 * w.toNat * (a * (k * b)):=by
   rw[←Dx,←Nat.mul_add];congr 2;omega
  omega
theorem aOV{n d:Nat}(h:n≤38)(hd:d * d≤6 ^ n):d≤609359740010496:=Nat.mul_self_le_mul_self_iff.1 (Ap hd (Ap (Dq (by decide) h) (by decide)))
theorem aPa{d e x y:Nat}(hd:0<d)(he:0<e)(h1:d * d≤6 ^ x)(h2:e * e≤6 ^ y):0<d / Nat.gcd d e * e∧(d / Nat.gcd d e * e) * (d / Nat.gcd d e * e)≤6 ^ (x+y):=by
 obtain⟨a,b,ha,hb,hg,ed,ee,q1,q2,q3⟩:=aEL hd he;refine⟨Nat.mul_pos (by rw[q1];exact ha) he,?_⟩;have h3:=Ff d (Nat.gcd d e);rw[Nat.pow_add,Nat.mul_mul_mul_comm];exact Et (Ap (Et h3 h3) h1) h2
def addN(f:Nat→Nat):Nat→Nat
 | 0=>0
 | n+1=>addN f n+f n
theorem aAY{f:Nat→Nat}{m:Nat}:∀ {n:Nat},m≤n→addN f m≤addN f n
 | 0,h=>by rw[Nat.le_zero.1 h];exact Ag _
 | n+1,h=>by
  rcases Cw n m with h1 | h1
  ·rw[show m=n+1 by omega];exact Ag _
  ·exact Ap (aAY h1) (Dd ..)
theorem aGk{l:List Int}{f:Nat→Nat}:((l.map Int.toNat).map f).sum=addN (fun k=>f (l.getD k 0).toNat) l.length:=by
 have key:∀n,n≤l.length→(((l.take n).map Int.toNat).map f).sum=addN (fun k=>f (l.getD k 0).toNat) n:=fun n=>by
  induction n with
  | zero=>intro _;simp [addN]
  | succ n ih=>
   intro hn;simp only[addN];rw[List.take_succ_eq_append_getElem (by omega),Dc,Dc,List.sum_append,ih (by omega),Ae,Ab (by omega)];simp
 have:=key l.length (Ag _)
 rwa [Ch] at this
theorem aHC{f:Nat→Nat}:∀ {n:Nat},(∀k,k<n→1≤f k)→addN (fun k=>f k - 1) n+n=addN f n
 | 0,_=>rfl
 | n+1,h=>by
  have ih:=aHC (n:=n) fun k hk=>h k (by omega);have:=h n (by omega);simp only[addN];omega
def aCe(T:List dH)(g:bH)(i j:Nat):Nat:=addN (fun k=>qV T ((nodeAt g i).next.getD k 0).toNat - 1) j
theorem aMK{T:List dH}{g:bH}(hT:lN g=some T)(hl:T.length=g.nodes.length){i:Nat}(hi:i<g.nodes.length):1≤qV T i:=by
 have:=aC0 hT hl hi;omega
theorem aFN{T:List dH}{g:bH}(hT:lN g=some T)(hl:T.length=g.nodes.length){i:Nat}(hi:i<g.nodes.length):qV T i+i≤g.nodes.length:=by
 have hw:iQ g.nodes.length (iU g) (g.nodes.length+1) 0 (-1) 0=some T:=hT;have k:=aFy (by decide) hw;obtain⟨e1,e2,e3⟩:=aIS k (show i<T.length by omega);omega
theorem aFI{T:List dH}{g:bH}(G:qP g)(hT:lN g=some T)(hl:T.length=g.nodes.length){i:Nat}(hi:i<g.nodes.length):aCe T g i (nodeAt g i).next.length+(nodeAt g i).next.length≤qV T i - 1:=by
 have h:=aC0 hT hl hi;rw[aGk] at h;have:=aHC (f:=fun k=>qV T ((nodeAt g i).next.getD k 0).toNat) (n:=(nodeAt g i).next.length) fun k hk=>aMK hT hl (by have:=G.kids i hi k hk;omega);unfold aCe;omega
theorem aMt{T:List dH}{g:bH}(hT:lN g=some T)(hl:T.length=g.nodes.length)(G:qP g){i k:Nat}(hi:i<g.nodes.length)(hk:k<(nodeAt g i).next.length):qV T ((nodeAt g i).next.getD k 0).toNat+1≤qV T i:=by
 have h:=aC0 hT hl hi;rw[aGk] at h;have:∀m,k<m→qV T ((nodeAt g i).next.getD k 0).toNat≤addN (fun k=>qV T ((nodeAt g i).next.getD k 0).toNat) m:=fun m hm=>by
  induction m with
  | zero=>omega
  | succ m ih=>
   simp only[addN];rcases Cw k m with h1 | h1
   ·have:=ih h1;omega
   ·rw[show k=m by omega];omega
 have:=this _ hk;omega
theorem aIE{l:List Int}{k t:Nat}:fS (k * t) (l.map (· * ((t:Nat):Int)))=fS k l * t:=by
 induction l generalizing k with
 | nil=>rfl
 | cons x l ih=>
  show fS (Nat.gcd (k * t) (x * ((t:Nat):Int)).natAbs) _=fS (Nat.gcd k x.natAbs) l * t;rw[Ga,Dr,Nat.gcd_mul_right,ih]
theorem aN4{v:Nat→Rat}{n:Nat}{P:List Int}{d:Nat}(hl:P.length=n)(hd:0<d)(he:∀q,q<n→((P.getD q 0:Int):Rat)=v q * ((d:Nat):Int)):aGs v n (P.map fun x:Int=>x.tdiv ((fS d P:Nat):Int)) (d / fS d P):=by
 have hg:0<fS d P:=aDP hd;obtain⟨h1,h2⟩:=tO (l:=P) (d:=d);have hP:(P.map fun x:Int=>x.tdiv ((fS d P:Nat):Int)).map (· * ((fS d P:Nat):Int))=P:=by
  rw[Fp];refine(Ck fun x hx=>?_).trans (Fy _);exact Int.tdiv_mul_cancel (Int.ofNat_dvd_left.2 (h2 x hx))
 have hD:d / fS d P * fS d P=d:=Nat.div_mul_cancel h1;have hq:0<d / fS d P:=Nat.pos_of_ne_zero fun h=>by rw[h] at hD;omega
 refine⟨by rw[Az];exact hl,hq,fun q hq'=>?_,?_⟩
 ·have e:=he q hq';have e1:P.getD q 0=(P.map fun x:Int=>x.tdiv ((fS d P:Nat):Int)).getD q 0 * ((fS d P:Nat):Int):=by
   have hq2:q<P.length:=by omega
   have e2:P.getD q 0=P[q]:=by rw[Ae,Ab hq2];rfl
   rw[e2,Ae,Be,Ab hq2];exact(Int.tdiv_mul_cancel (Int.ofNat_dvd_left.2 (h2 _ (Br hq2)))).symm
  rw[e1] at e;have e3:(((d:Nat):Int):Rat)=(((d / fS d P:Nat):Int):Rat) * (((fS d P:Nat):Int):Rat):=by
   rw[←Eh,←Fv,hD]
  rw[Eh,e3,←Rat.mul_assoc] at e;have h0:(((fS d P:Nat):Int):Rat)≠0:=fun h=>by
   have:((fS d P:Nat):Int)=0:=Rat.intCast_inj.1 h;omega
  have:=Dh (· * (((fS d P:Nat):Int):Rat)⁻¹) e;simp only[Rat.mul_assoc,Rat.mul_inv_cancel _ h0,Rat.mul_one] at this;exact this
 ·have:=aIE (l:=P.map fun x=>x.tdiv ((fS d P:Nat):Int)) (k:=d / fS d P) (t:=fS d P);rw[hP,hD] at this;exact Nat.eq_of_mul_eq_mul_right hg (by omega)
structure aNj(g:bH)(T:List dH)(c:List Int)(f i n j:Nat)(P:List Int)(d:Nat)(s:Int):Prop where
 len:P.length=n
 pos:0<d
 le:d * d≤6 ^ aCe T g i j
 one:j≤1→∀q,q<n→s ∣ P.getD q 0
 sum:s=aPd (fun k=>(nodeAt g i).weights.getD k 0) j
 eq:∀q,q<n→((P.getD q 0:Int):Rat)=aOa (fun k=>(((nodeAt g i).weights.getD k 0:Int):Rat) * aAh g c q f ((nodeAt g i).next.getD k 0).toNat) j * ((d:Nat):Int)
 bd:∀q,q<n→(P.getD q 0).natAbs≤3 * s.toNat * d
section
variable {g:bH}{T:List dH}{c P P' p:List Int}{f i n j d e:Nat}{s w:Int}
theorem aGa(h:aNj g T c f i n j P d s)(hc:aGs (fun q=>aAh g c q f ((nodeAt g i).next.getD j 0).toNat) n p e)(he:e * e≤6 ^ (qV T ((nodeAt g i).next.getD j 0).toNat - 1))(hp:∀q,q<n→(p.getD q 0).natAbs≤3 * e)(hw:w=(nodeAt g i).weights.getD j 0)(w0:0≤w)(s0:0≤s):
  0<d / Nat.gcd d e * e∧(d / Nat.gcd d e * e) * (d / Nat.gcd d e * e)≤6 ^ aCe T g i (j+1)∧
  (∀q,q<n→(P.getD q 0 * ((e / Nat.gcd d e:Nat):Int)).natAbs≤3 * s.toNat * (d / Nat.gcd d e * e)∧(w * p.getD q 0).natAbs≤3 * w.toNat * (d / Nat.gcd d e * e)∧(w * p.getD q 0 * ((d / Nat.gcd d e:Nat):Int)).natAbs≤3 * w.toNat * (d / Nat.gcd d e * e))∧
  ∀P',P'.length=n→(∀q,q<n→P'.getD q 0=P.getD q 0 * ((e / Nat.gcd d e:Nat):Int)+w * p.getD q 0 * ((d / Nat.gcd d e:Nat):Int))→aNj g T c f i n (j+1) P' (d / Nat.gcd d e * e) (s+w):=by
 obtain⟨l1,l2⟩:=aPa h.pos hc.pos h.le he;have hS:=fun q (hq:q<n)=>aL9 (P:=P.getD q 0) (p:=p.getD q 0) (w:=w) (s:=s) h.pos hc.pos (h.eq q hq) (hc.eq q hq) (h.bd q hq) (hp q hq) s0 w0;have l3:(d / Nat.gcd d e * e) * (d / Nat.gcd d e * e)≤6 ^ aCe T g i (j+1):=l2;refine⟨l1,l3,fun q hq=>?_,fun P' hl hP=>⟨hl,l1,l3,fun hj q hq=>?_,?_,fun q hq=>?_,fun q hq=>?_⟩⟩
 ·obtain⟨_,b1,b2,b3,_⟩:=hS q hq;exact⟨b1,b2,b3⟩
 ·obtain rfl:j=0:=by omega
  have e0:s=0:=h.sum;have e1:=h.one (by omega) q hq;rw[e0] at e1;rw[hP q hq,Int.zero_dvd.1 e1,e0,Int.zero_mul,Int.zero_add,Int.zero_add,Int.mul_assoc];exact Int.dvd_mul_right ..
 ·rw[h.sum,hw];rfl
 ·rw[hP q hq,(hS q hq).1,hw];rfl
 ·rw[hP q hq];exact(hS q hq).2.2.2.2
theorem aLf:aNj g T c f i n 0 (List.replicate n 0) 1 0:=by
 refine⟨Bg ..,Nat.one_pos,Ag _,fun _ q hq=>?_,rfl,fun q hq=>?_,fun q hq=>?_⟩
 ·rw[Ae,De,if_pos hq];exact Int.dvd_zero _
 ·rw[Ae,De,if_pos hq];show((0:Int):Rat)=0 * _;rw[Rat.zero_mul];rfl
 ·rw[Ae,De,if_pos hq];exact Bt _
theorem aOS(G:qP g)(hT:lN g=some T)(hl:T.length=g.nodes.length)(hi:i<g.nodes.length)(hk:(nodeAt g i).kind=1)(h:aNj g T c f i n (nodeAt g i).next.length P d s)(s1:1≤s)(s2:s≤3 * (nodeAt g i).next.length)(k3:(nodeAt g i).next.length≤3):
  aGs (fun q=>aAh g c q (f+1) i) n (P.map fun x:Int=>x.tdiv ((fS (d * s.toNat) P:Nat):Int)) (d * s.toNat / fS (d * s.toNat) P)∧(d * s.toNat / fS (d * s.toNat) P) * (d * s.toNat / fS (d * s.toNat) P)≤6 ^ (qV T i - 1)∧0<d * s.toNat∧∀q,q<n→((P.map fun x:Int=>x.tdiv ((fS (d * s.toNat) P:Nat):Int)).getD q 0).natAbs≤3 * (d * s.toNat / fS (d * s.toNat) P):=by
 have hpos:0<d * s.toNat:=Nat.mul_pos h.pos (by omega);have hsR:((s:Int):Rat)≠0:=fun e=>by
  have:s=0:=Rat.intCast_inj.1 e;omega
 have hlow:=aN4 (v:=fun q=>aAh g c q (f+1) i) h.len hpos fun q hq=>by
  rw[h.eq q hq];simp only[aAh];rw[if_neg (by omega),if_neg (by omega),←h.sum];have e1:(((d * s.toNat:Nat):Int):Rat)=((d:Nat):Int) * ((s:Int):Rat):=by
   rw[←Eh];congr 1;rw[Fv,Int.toNat_of_nonneg (by omega)]
  rw[e1];generalize aOa _ _=x;generalize (((d:Nat):Int):Rat)=y;rw[Rat.mul_comm y,←Rat.mul_assoc,Rat.div_mul_cancel hsR]
 refine⟨hlow,?_,hpos,fun q hq=>?_⟩
 ·have he:=aFI G hT hl hi;have hmx:=Ff (d * s.toNat) (fS (d * s.toNat) P);by_cases h1:(nodeAt g i).next.length≤1
  ·have h2:s.toNat ∣ fS (d * s.toNat) P:=aDG (Nat.dvd_mul_left ..) fun x hx=>by
    obtain⟨q,hq,rfl⟩:=Eq.1 hx;have h4:=h.one h1 q (by rw[←h.len];exact hq);rw[Ae,Ab hq] at h4;have h5:=Int.natAbs_dvd_natAbs.2 h4
    rwa [show s.natAbs=s.toNat by omega] at h5
   have h5:d * s.toNat / fS (d * s.toNat) P≤d:=Ap (Nat.div_le_div_left (Nat.le_of_dvd (aDP hpos) h2) (by omega)) (Gc (Nat.mul_div_cancel _ (by omega)));exact Ap (Et h5 h5) (Ap h.le (Dq (by decide) (by omega)))
  ·refine Ap (Et hmx hmx) ?_;rw[Nat.mul_mul_mul_comm];refine Ap (Et h.le (show s.toNat * s.toNat≤6 ^ (nodeAt g i).next.length from ?_)) (by rw[←Nat.pow_add];exact Dq (by decide) he);rcases(show(nodeAt g i).next.length=2∨(nodeAt g i).next.length=3 by omega) with e | e<;>rw[e] at s2 ⊢
   ·exact Ap (Et (show s.toNat≤6 by omega) (show s.toNat≤6 by omega)) (by decide)
   ·exact Ap (Et (show s.toNat≤9 by omega) (show s.toNat≤9 by omega)) (by decide)
 ·have hb:=h.bd q hq;have hq2:q<P.length:=by rw[h.len];exact hq
  obtain⟨h1,h2⟩:=tO (l:=P) (d:=d * s.toNat);have e2:P.getD q 0=P[q]:=by rw[Ae,Ab hq2];rfl
  have hd:=h2 _ (Br hq2);rw[←e2] at hd;have e3:(P.map fun x:Int=>x.tdiv ((fS (d * s.toNat) P:Nat):Int)).getD q 0=(P.getD q 0).tdiv ((fS (d * s.toNat) P:Nat):Int):=by
   rw[e2,Ae,Be,Ab hq2];rfl
  rw[e3,Int.natAbs_tdiv,Dr];have:3 * (d * s.toNat / fS (d * s.toNat) P)=3 * (d * s.toNat) / fS (d * s.toNat) P:=(Nat.mul_div_assoc 3 h1).symm;rw[this];exact Nat.div_le_div_right (by rw[Nat.mul_comm d,←Nat.mul_assoc];exact hb)
end
end Go.Ev.Gl
