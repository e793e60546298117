import Derived.Test.YtiiplmagnlcpbaaGreatDoorGl20
set_option linter.unusedSimpArgs false
set_option linter.unusedVariables false
open Nat renaming reduceEqDiff -> rE, reduceAdd -> rA
set_option maxHeartbeats 0
namespace Go.Ev.Gl
theorem aIA:∀ {n:Nat} {f:Nat->Nat},(∀i,i<n->f i<=1)->gP n f<=n
 | 0,_,_=>Af _
 | n+1,f,h=>by
  show gP n f+f n<=n+1;have h1:=aIA (n:=n) (f:=f) fun i hi=>h i au;have h2:=h n au;omega
theorem aG3{j:Nat}:∀ {n:Nat},gP n (fun x=>if x=j then 1 else 0)=if j<n then 1 else 0
 | 0=>rfl
 | n+1=>by
  show gP n _+(if n=j then 1 else 0)=_;rw[aG3 (n:=n)];by_cases h:n=j
  ·rw[if_pos h,if_neg au,if_pos au]
  ·rw[if_neg h];by_cases h2:j<n
   ·rw[if_pos h2,if_pos au]
   ·rw[if_neg h2,if_neg au]
open Classical in
noncomputable def dnN(g:bD)(i k:Nat):Nat:=gP g.bw.length fun x=>if eY g i k x then 1 else 0
def aEJ(g:bD):Nat->Nat
 | 0=>0
 | n+1=>aEJ g n+(cj g n).next.length
open Classical in
theorem aKH{g:bD}(G:jI g){i:Nat}(hi:i<g.bw.length):∀ {k:Nat},k<=(cj g i).next.length->dnN g i k=dnN g i 0+k
 | 0,_=>rfl
 | k+1,hk=>by
  have ih:=aKH G hi (k:=k) au;have⟨c1,c2⟩:=G.kids i hi k au;obtain⟨j,hj⟩:∃j:Nat,(cj g i).next.getD k 0=(j:Int):=⟨_,(Bu au).symm⟩;have hK:gI g i k j:=⟨hi,au,hj⟩;have hjN:=(hK.lt G).2;have e:dnN g i (k+1)=gP g.bw.length (fun x=>(if eY g i k x then 1 else 0)+if x=j then 1 else 0):=by
   unfold dnN;refine gG fun x _=>?_;have hs:=eY.succ G hK (x:=x);by_cases hx:x=j
   ·have hf:=eY.fresh G hK;rw[<-hx] at hf;rw[if_pos (hs.2 (.inr hx)),if_neg hf,if_pos hx]
   ·by_cases hd:eY g i k x
    ·rw[if_pos (hs.2 (.inl hd)),if_pos hd,if_neg hx]
    ·rw[if_neg (fun h=>(hs.1 h).elim hd hx),if_neg hd,if_neg hx]
  rw[e,aIh,aG3,if_pos hjN];show dnN g i k+1=_;omega
open Classical in
theorem aKs{g:bD}(G:jI g):∀ {n:Nat},n<=g.bw.length->1+aEJ g n<=dnN g n 0
 | 0,_=>by
  have h1:=G.n1;have:gP g.bw.length (fun x=>if x=0 then 1 else 0)<=dnN g 0 0:=by
   unfold dnN;have key:∀n,gP n (fun x=>if x=0 then 1 else 0)<=gP n fun x=>if eY g 0 0 x then 1 else 0:=by
    intro n
    induction n with
    | zero=>exact Af _
    | succ n ih=>
     show gP n _+_<=gP n _+_;refine Nat.add_le_add ih ?_;show(if n=0 then 1 else 0)<=if eY g 0 0 n then 1 else 0;by_cases h:n=0
     ·rw[if_pos h,if_pos (by rw[h];exact eY.zero)];exact Af _
     ·rw[if_neg h];exact Dt _
   exact key _
  rw[aG3,if_pos h1] at this;exact this
 | n+1,hn=>by
  have ih:=aKs G (n:=n) au;have hr:=aKH G (i:=n) au (k:=(cj g n).next.length) (Af _);have e:dnN g n (cj g n).next.length=dnN g (n+1) 0:=by
   unfold dnN;refine gG fun x _=>?_;have:=eY.next (g:=g) (i:=n) (k:=(cj g n).next.length) (j:=x) (Af _);by_cases h:eY g (n+1) 0 x
   ·rw[if_pos (this.2 h),if_pos h]
   ·rw[if_neg (fun h'=>h (this.1 h')),if_neg h]
  show 1+(aEJ g n+(cj g n).next.length)<=_;omega
open Classical in
theorem aQm{g:bD}(G:jI g):aEJ g g.bw.length+1<=g.bw.length:=by
 have h1:=aKs G (Af _);have h2:dnN g g.bw.length 0<=g.bw.length:=aIA fun i _=>by split<;>omega
 omega
theorem aIG:∀m:Nat,3 * m<=3 ^ m
 | 0=>by decide
 | 1=>by decide
 | m+2=>by
  have:=aIG (m+1);rw[Cy];generalize 3 ^ (m+1)=P at this;omega
theorem aOB{g:bD}(hN:∀x∈g.bw,mS g.b9 g.bz x){i:Nat}(hi:i<g.bw.length):wM 1 g i<=3 ^ (cj g i).next.length:=by
 have h3:=aIG (cj g i).next.length;have h1:1<=3 ^ (cj g i).next.length:=Fx ay;unfold wM;by_cases hk:(cj g i).kind=1
 ·rw[if_pos hk];have hx:=hN (cj g i) (Cm (iK hi));rcases hx with h | h | h
  ·have:=h.kind;omega
  ·have:=aKA h.wts;have:=h.len;generalize 3 ^ (cj g i).next.length=P at *;omega
  ·have:=h.kind;omega
 ·rw[if_neg hk];split<;>exact h1
theorem aDA{g:bD}(hN:∀x∈g.bw,mS g.b9 g.bz x):∀ {n:Nat},n<=g.bw.length->aGq 1 g n<=3 ^ aEJ g n
 | 0,_=>Af _
 | n+1,hn=>by
  show aGq 1 g n * wM 1 g n<=3 ^ (aEJ g n+(cj g n).next.length);rw[Hl];exact Dw (aDA hN au) (aOB hN au)
theorem aRK{g:bD}{pr:Nat->Nat}(hf:eO g=0)(hN:∀x∈g.bw,mS g.b9 g.bz x)(hn:g.bw.length<=25)(P:zO 1 g pr):∃z:Nat,szF g pr g.bw.length=some z/\0<z/\z<=1000000000000000/\∀j,j<g.bw.length->pr j ∣ z/\((cj g j).kind≠3->pr j * wM 1 g j ∣ z):=by
 have G:=rF hf;have hM:1<=1/\1<=1073741824:=by decide
 have hl:=aQm G.good;have hle:aGq 1 g g.bw.length<=1000000000000000:=by
  refine Bb (aDA hN (Af _)) (Bb (Ci ay (show aEJ g g.bw.length<=24 by omega)) ?_);decide
 have⟨z,h1,h2⟩:=aHd P hM G (Nat.dvd_refl _) (aHy hM G (Af _)) hle (Af _);have⟨a,c,_⟩:=aH8 P hM G (Af _) h1;have hd:=aKC P hM G (Af _) h1;exact⟨z,aNr h1,a,c,fun j hj=>aKO P G hd (n:=g.bw.length) hj au⟩
end Go.Ev.Gl
namespace Go.Ev.Gl
theorem aKS:∀ {l:bm} {k:Nat},(∀w∈l,1<=w)->k<l.length->jD l (l.take k).sum=k
 | [],k,_,hk=>absurd hk (Dc _)
 | w::l,0,h,_=>by
  have:=h w (Bn ..);show(if(0:Int)<w then 0 else jD l (0 - w)+1)=0;rw[if_pos au]
 | w::l,k+1,h,hk=>by
  have h1:=h w (Bn ..);have hl:∀x∈l,1<=x:=fun x hx=>h x (Bf _ hx);have hkl:k<l.length:=by simpa using hk
  have h2:=(aGQ hl hkl).1;rw[Gf,Ea];show(if w+(l.take k).sum<w then 0 else jD l (w+(l.take k).sum - w)+1)=k+1;rw[if_neg au,show w+(l.take k).sum - w=(l.take k).sum by omega,aKS hl hkl]
theorem aKU:∀ {l:bm} {d:Int},(∀w∈l,1<=w)->0<=d->d<l.sum->(l.take (jD l d)).sum<=d
 | [],d,_,h0,h=>by simp at h;omega
 | w::l,d,h,h0,hd=>by
  simp only[jD];rw[Ea] at hd;split
  ·rw[Ha,List.sum_nil];exact h0
  ·rw[Gf,Ea];have:=aKU (l:=l) (d:=d - w) (fun x hx=>h x (Bf _ hx)) au au;omega
section
variable {g:bD}{ch:bm}
def aBL(g:bD)(ch:bm):Prop:=∀i,i<g.bw.length->(cj g i).kind=2->0<=rI g ch i/\rI g ch i<((cj g i).next.length:Int)
def nN(g:bD)(ch:bm)(i d:Nat):Nat:=if(cj g i).kind=1 then jD (cj g i).weights (d:Int) else(rI g ch i).toNat
theorem aCf{i:Nat}:(eM (rB .ce ch) (cj g i)).rad (cj g i)=wN g i:=by
 unfold eM wN;by_cases h:(cj g i).kind=1
 ·rw[if_pos h,if_pos h];rfl
 ·rw[if_neg h,if_neg h];rfl
theorem aGV{i d:Nat}:(eM (rB .ce ch) (cj g i)).chs (cj g i) d=nN g ch i d:=by
 unfold eM nN;by_cases h:(cj g i).kind=1
 ·rw[if_pos h,if_pos h];rfl
 ·rw[if_neg h,if_neg h];rfl
theorem aD0(G:fH g)(hf:aBL g ch){i:Nat}(hi:i<g.bw.length)(h3:(cj g i).kind≠3){d:Nat}(hd:d<wN g i):nN g ch i d<(cj g i).next.length:=by
 unfold nN;rcases G.knd i hi with h | h | h
 ·rw[if_pos h,<-G.good.wts i hi h];unfold wN at hd;rw[if_pos h] at hd;exact aDz au au
 ·rw[if_neg au];have:=hf i hi h;omega
 ·exact absurd h h3
def vF(g:bD)(ch:bm)(φ:Nat->Nat)(j s:Nat):Nat:=aFW φ j (trL g (rB .ce ch) g.bw.length 0 s)
theorem aFY(G:fH g)(hf:aBL g ch){φ:Nat->Nat}{s:Nat}:vF g ch φ 0 s=φ s:=by
 have h1:=G.good.n1;unfold vF;obtain⟨f,hf'⟩:∃f,g.bw.length=f+1:=⟨g.bw.length - 1,au⟩;rw[hf'];exact aN1 G (fun i hi h3 d hd=>by rw[aGV];rw[aCf] at hd;exact aD0 G hf hi h3 hd) (fun i hi h3=>by rw[aCf];exact uP G hi) h1
theorem aGs(G:fH g)(hf:aBL g ch){q k j:Nat}(K:gI g q k j)(φ:Nat->Nat){s:Nat}:vF g ch φ j s=vF g ch (fun r=>if nN g ch q (r % wN g q)=k then φ (r / wN g q) else 0) q s:=by
 have h1:=G.good.n1;have⟨hq,hk,he⟩:=K;have hj:=(gI.lt G.good ⟨hq,hk,he⟩);have:=aHI (D:=rB .ce ch) G hq hk (fun i hi h3 d hd=>by rw[aGV];rw[aCf] at hd;exact aD0 G hf hi h3 hd) (fun i hi h3=>by rw[aCf];exact uP G hi) φ (f:=g.bw.length) (i:=0) (s:=s) h1 au;rw[he,Bd,if_neg au,Bm] at this;unfold vF;rw[this];congr 1;funext r;rw[aGV,aCf]
structure aO6(g:bD)(ch:bm)(W:Nat->Nat):Prop where
 zero:W 0=1
 kid:∀i k j,gI g i k j->W j=W i * (if(cj g i).kind=1 then((cj g i).weights.getD k 0).toNat else if rI g ch i=(k:Int) then 1 else 0)
open Classical in
theorem aG6(G:jI g):∃W,aO6 g ch W:=by
 have⟨W,h0,h1⟩:=aHx G fun i k w=>w * (if(cj g i).kind=1 then((cj g i).weights.getD k 0).toNat else if rI g ch i=(k:Int) then 1 else 0);refine⟨W,h0,fun i k j K=>?_⟩;have:=h1 i K.1 k K.2.1;rw[K.2.2,Bd] at this;rw[this]
theorem aQt(G:fH g)(hf:aBL g ch){q k:Nat}(hq:q<g.bw.length)(hk:k<(cj g q).next.length):gP (wN g q) (fun d=>if nN g ch q d=k then 1 else 0)=if(cj g q).kind=1 then((cj g q).weights.getD k 0).toNat else if rI g ch q=(k:Int) then 1 else 0:=by
 by_cases h:(cj g q).kind=1
 ·rw[if_pos h];have hw:=G.good.wts q hq h;have hc:=G.chn q hq h;have hp:=aC5 (l:=(cj g q).weights) (k:=k) fun x hx=>by have:=hc.1 x hx;omega
  rw[<-hp];unfold wN;rw[if_pos h];refine gG fun d _=>?_;unfold nN;rw[if_pos h];by_cases e:jD (cj g q).weights (d:Int)=k
  ·rw[if_pos e,if_pos ⟨e,au⟩]
  ·rw[if_neg e,if_neg fun h'=>e h'.1]
 ·rw[if_neg h];have h2:(cj g q).kind=2:=by
   rcases G.knd q hq with h1 | h1 | h1
   ·exact absurd h1 h
   ·exact h1
   ·rw[G.fin q hq h1] at hk;exact absurd hk (Dc _)
  have:=hf q hq h2;have e1:wN g q=1:=by unfold wN;rw[if_neg h]
  rw[e1];show 0+(if nN g ch q 0=k then 1 else 0)=_;unfold nN;rw[if_neg h,Ao];by_cases e:rI g ch q=(k:Int)
  ·rw[if_pos e,if_pos au]
  ·rw[if_neg e,if_neg au]
theorem aQ4(G:fH g)(hf:aBL g ch){pr W:Nat->Nat}(P:nC g pr)(M:aO6 g ch W){z:Nat}(hz:∀j,j<g.bw.length->pr j ∣ z):∀ {j:Nat},j<g.bw.length->∀φ:Nat->Nat,gP z (fun s=>vF g ch φ j s)=gP (z / pr j) φ * W j:=by
 intro j
 induction j using Nat.strongRecOn with
 | ind j ih=>
  intro hj φ;rcases An j with h0 | h0
  ·subst h0;rw[P.zero,M.zero,Hb,Bt];exact gG fun s _=>aFY G hf
  ·have⟨q,k,hq,hk,he⟩:=gB G.good h0 hj;have K:gI g q k j:=⟨au,hk,he⟩;have hw:=uP G K.1;have epr:=P.kid q K.1 k hk;rw[he,Bd] at epr;have hs:=ih q hq K.1 fun r=>if nN g ch q (r % wN g q)=k then φ (r / wN g q) else 0;rw[gG fun s _=>aGs G hf K φ (s:=s),hs,M.kid q k j K];have⟨m,hm⟩:=hz j hj;have hpq:0<pr q:=P.pos G K.1;have hpj:0<pr j:=P.pos G hj;have d1:z / pr j=m:=by rw[hm,Eh _ hpj]
   have d2:z / pr q=m * wN g q:=by rw[hm,epr,Bl,Eh _ hpq,Bi]
   rw[d1,d2,aCx,<-aQt G hf K.1 hk];have key:gP m (fun u=>gP (wN g q) (fun d=>if nN g ch q ((u * wN g q+d) % wN g q)=k then φ ((u * wN g q+d) / wN g q) else 0))=gP m (fun u=>φ u * gP (wN g q) fun d=>if nN g ch q d=k then 1 else 0):=by
    refine gG fun u _=>?_;rw[Bi (φ u),<-aEl];refine gG fun d hd=>?_;have m1:(u * wN g q+d) % wN g q=d:=by rw[Bi,Nat.mul_add_mod,Ec hd]
    have m2:(u * wN g q+d) / wN g q=u:=by rw[Bi,Nat.mul_add_div hw,Nat.div_eq_of_lt hd,Bm]
    rw[m1,m2];by_cases e:nN g ch q d=k
    ·rw[if_pos e,if_pos e,Nat.one_mul]
    ·rw[if_neg e,if_neg e,Fu]
   rw[key,aEl,Bl,Bi (W q)]
theorem aPu(G:fH g){pr W:Nat->Nat}{sz:Int}{cn:Nat->Int}(C:Cnt g ch sz cn)(P:nC g pr)(M:aO6 g ch W){z:Nat}(ez:sz=(z:Int))(hz:∀j,j<g.bw.length->pr j ∣ z/\((cj g j).kind≠3->pr j * wN g j ∣ z)):∀ {j:Nat},j<g.bw.length->cn j=((z / pr j * W j:Nat):Int):=by
 intro j
 induction j using Nat.strongRecOn with
 | ind j ih=>
  intro hj;rcases An j with h0 | h0
  ·subst h0;rw[C.zero,P.zero,M.zero,Hb,Bt,ez]
  ·have⟨q,k,hq,hk,he⟩:=gB G.good h0 hj;have K:gI g q k j:=⟨au,hk,he⟩;have hw:=uP G K.1;have epr:=P.kid q K.1 k hk;rw[he,Bd] at epr;have e:=ih q hq K.1;have eW:=M.kid q k j K;have h3:(cj g q).kind≠3:=fun h=>by rw[G.fin q K.1 h] at hk;exact absurd hk (Dc _)
   have⟨m,hm⟩:=(hz q K.1).2 h3;have hpq:0<pr q:=P.pos G K.1;have hpj:0<pr j:=P.pos G hj;have d1:z / pr j=m:=by rw[epr,hm,Eh _ (Ew hpq hw)]
   have d2:z / pr q=m * wN g q:=by rw[hm,Bl,Eh _ hpq,Bi]
   rw[d1,eW];rw[d2] at e;by_cases h1:(cj g q).kind=1
   ·have hc:=(vE G K h1).2.2;rw[C.cha q k j K h1,e,if_pos h1,<-Int.natCast_ediv,Nat.mul_right_comm,Nat.mul_div_cancel _ hw];obtain⟨w,hw'⟩:∃w:Nat,(cj g q).weights.getD k 0=(w:Int):=⟨_,(Bu au).symm⟩;rw[hw',Bd,<-Bk,Bl]
   ·have ew:wN g q=1:=by unfold wN;rw[if_neg h1]
    rw[C.mv q k j K h1,e,if_neg h1,ew,Bt];split
    ·rw[Bt]
    ·rw[Nat.mul_zero,Nat.mul_zero];rfl
theorem aRI(G:fH g)(hf:aBL g ch){sz:Int}{cn ls pl:Nat->Int}(C:Cnt g ch sz cn)(L:Lst g ch ls pl):∀ {j:Nat},j<g.bw.length->cn j≠0->∃a p:Nat,ls j=(a:Int)/\pl j=(p:Int)/\∀ (φ:Nat->Nat) (t:Nat),vF g ch φ j (a+p * t)=φ t:=by
 intro j
 induction j using Nat.strongRecOn with
 | ind j ih=>
  intro hj hc;rcases An j with h0 | h0
  ·subst h0;refine⟨0,1,L.zero.1,L.zero.2,fun φ t=>?_⟩;rw[aFY G hf,Ao,Nat.one_mul]
  ·have⟨q,k,hq,hk,he⟩:=gB G.good h0 hj;have K:gI g q k j:=⟨au,hk,he⟩;have hw:=uP G K.1;have⟨c1,c2⟩:=C.down K hc;have⟨a,p,ea,ep,hv⟩:=ih q hq K.1 c1;by_cases h1:(cj g q).kind=1
   ·have⟨w1,w2,w3⟩:=vE G K h1;have⟨l1,l2⟩:=L.cha q k j K h1;have hwl:=G.good.wts q K.1 h1;have hcn:=G.chn q K.1 h1;have hpa:=aKS (l:=(cj g q).weights) (k:=k) (fun w hw=>(hcn.1 w hw).1) au;obtain⟨b,hb⟩:∃b:Nat,((cj g q).weights.take k).sum=(b:Int):=⟨_,(Bu w1).symm⟩;rw[hb] at l1 hpa w2;refine⟨a+p * b,p * wN g q,by rw[l1,ea,ep,Int.natCast_add,Bk],by rw[l2,ep,Bk],fun φ t=>?_⟩;rw[aGs G hf K,show a+p * b+p * wN g q * t=a+p * (b+wN g q * t) by rw[Cn,Bl,Cx],hv];have hbw:b<wN g q:=by omega
    rw[Nat.add_mul_mod_self_left,Ec hbw,Nat.add_mul_div_left _ _ hw,Nat.div_eq_of_lt hbw,Ao];unfold nN;rw[if_pos h1,hpa,if_pos rfl]
   ·have hch:=c2 h1;have⟨l1,l2⟩:=L.mv q k j K h1;rw[if_pos hch] at l1 l2;have ew:wN g q=1:=by unfold wN;rw[if_neg h1]
    refine⟨a,p,l1.trans ea,l2.trans ep,fun φ t=>?_⟩;rw[aGs G hf K,hv,ew,Hb];unfold nN;rw[if_neg h1,if_pos au]
theorem aSs(G:fH g)(hf:aBL g ch){ls pl:Nat->Int}(L:Lst g ch ls pl)(hp:∀j,j<g.bw.length->0<=pl j):∀ {j:Nat},j<g.bw.length->∀ (φ:Nat->Nat) (s:Nat),vF g ch φ j s≠0->∃t:Nat,φ t≠0/\ls j+pl j * (t:Int)<=(s:Int):=by
 intro j
 induction j using Nat.strongRecOn with
 | ind j ih=>
  intro hj φ s hv;rcases An j with h0 | h0
  ·subst h0;rw[aFY G hf] at hv;refine⟨s,hv,?_⟩;rw[L.zero.1,L.zero.2,Int.one_mul];omega
  ·have⟨q,k,hq,hk,he⟩:=gB G.good h0 hj;have K:gI g q k j:=⟨au,hk,he⟩;have hw:=uP G K.1;rw[aGs G hf K] at hv;have⟨r,h1,h2⟩:=ih q hq K.1 _ s hv;have hc:nN g ch q (r % wN g q)=k:=by
    by_cases e:nN g ch q (r % wN g q)=k
    ·exact e
    ·simp only[if_neg e] at h1;exact absurd rfl h1
   simp only[if_pos hc] at h1;refine⟨r / wN g q,h1,Int.le_trans ?_ h2⟩;have hpq:=hp q K.1;by_cases hk1:(cj g q).kind=1
   ·have⟨l1,l2⟩:=L.cha q k j K hk1;have hcn:=G.chn q K.1 hk1;unfold nN at hc;rw[if_pos hk1] at hc;have hlt:=Dj r hw;have hge:=aKU (l:=(cj g q).weights) (d:=((r % wN g q:Nat):Int)) (fun w hw=>(hcn.1 w hw).1) au (by
     have:wN g q=(cj g q).weights.sum.toNat:=by unfold wN;rw[if_pos hk1]
     omega)
    rw[hc] at hge;rw[l1,l2,Int.mul_assoc,Int.add_assoc,<-Hm];refine Int.add_le_add_left (Cj ?_ hpq) _;have:=El r (wN g q);rw[<-Bk];generalize ((cj g q).weights.take k).sum=b at hge;generalize wN g q * (r / wN g q)=x at this;omega
   ·have⟨l1,l2⟩:=L.mv q k j K hk1;unfold nN at hc;rw[if_neg hk1] at hc;have ew:wN g q=1:=by unfold wN;rw[if_neg hk1]
    have hk2:(cj g q).kind=2:=by
     rcases G.knd q K.1 with h | h | h
     ·exact absurd h hk1
     ·exact h
     ·rw[G.fin q K.1 h] at hk;exact absurd hk (Dc _)
    have:=hf q K.1 hk2;have hch:rI g ch q=(k:Int):=by omega
    rw[if_pos hch] at l1 l2;rw[l1,l2,ew,Hb];exact Int.le_refl _
end
end Go.Ev.Gl
namespace Go.Ev.Gl
section
variable {g:bD}{ch:bm}{pr:Nat->Nat}{z:Nat}{cn ls pl:Nat->Int}
theorem aJS{j u:Nat}:lK j (gR g ch (u:Int))=vF g ch (fun _=>1) j u:=by
 unfold gR vF;rw[Bd,aKQ,aKG]
def tN(g:bD)(ch:bm)(j s:Nat):Nat:=gP s fun u=>lK j (gR g ch (u:Int))
def aEU(g:bD)(ch:bm)(j:Nat):Nat->Nat
 | 0=>0
 | s+1=>if tN g ch j s=0/\lK j (gR g ch (s:Int))≠0 then s else aEU g ch j s
def aBd(g:bD)(ch:bm)(p:Nat):Nat->Int
 | 0=>0
 | s+1=>aBd g ch p s+(aAa g ch (s:Int)).getD p 0
theorem tI{j s:Nat}:tN g ch j (s+1)=tN g ch j s+lK j (gR g ch (s:Int)):=rfl
theorem aE6{j s:Nat}:∀ {t:Nat},s<=t->tN g ch j s<=tN g ch j t
 | 0,h=>by
  obtain rfl:s=0:=by omega
  exact Af _
 | t+1,h=>by
  by_cases e:s=t+1
  ·rw[e];exact Af _
  ·rw[tI];have:=aE6 (j:=j) (s:=s) (t:=t) au;omega
structure wO(g:bD)(ch:bm)(pr:Nat->Nat)(z:Nat)(cn ls pl:Nat->Int):Prop where
 R:wW g ch pr (z:Int) cn ls pl
 dv:∀j,j<g.bw.length->pr j ∣ z/\((cj g j).kind≠3->pr j * wN g j ∣ z)
theorem wO.fit(M:wO g ch pr z cn ls pl):aBL g ch:=fun i hi hk=>(M.R.fit i hi hk).2
theorem wO.fnd(M:wO g ch pr z cn ls pl){j:Nat}(hj:j<g.bw.length):((tN g ch j z:Nat):Int)=cn j:=by
 have⟨W,hW⟩:=aG6 (ch:=ch) M.R.G.good;rw[aPu M.R.G M.R.C M.R.P hW rfl M.dv hj];have h:=aQ4 M.R.G M.fit M.R.P hW (fun j hj=>(M.dv j hj).1) hj fun _=>1;rw[aDa] at h;rw[<-h];congr 1;exact gG fun u _=>aJS
theorem wO.lea(M:wO g ch pr z cn ls pl){j:Nat}(hj:j<g.bw.length)(hc:cn j≠0):((aEU g ch j z:Nat):Int)=ls j:=by
 have⟨a,p,ea,ep,hv⟩:=aRI M.R.G M.fit M.R.C M.R.L hj hc;have hbd:=M.R.L.bd M.R.P M.R.G hj;have hz0:=M.R.s1;have hle:=Hj au (M.dv j hj).1;have haz:a<z:=by omega
 have none:∀u,u<a->lK j (gR g ch (u:Int))=0:=fun u hu=>by
  rw[aJS];by_cases e:vF g ch (fun _=>1) j u=0
  ·exact e
  ·have⟨t,_,h2⟩:=aSs M.R.G M.fit M.R.L (fun i hi=>by have:=M.R.L.bd M.R.P M.R.G hi;omega) hj _ u e;have:0<=pl j * (t:Int):=Cz au au;omega
 have zero:∀s,s<=a->tN g ch j s=0:=by
  intro s
  induction s with
  | zero=>intro _;rfl
  | succ s ih=>
   intro hs;rw[tI,ih au,none s au]
 have one:lK j (gR g ch (a:Int))=1:=by
  rw[aJS];have:=hv (fun _=>1) 0
  rwa [Nat.mul_zero,Bm] at this
 have fin:∀n,aEU g ch j (a+1+n)=a/\tN g ch j (a+1+n)≠0:=by
  intro n
  induction n with
  | zero=>
   refine⟨?_,?_⟩
   ·show(if tN g ch j a=0/\lK j (gR g ch (a:Int))≠0 then a else aEU g ch j a)=a;rw[if_pos ⟨zero a (Af _),by rw[one];decide⟩]
   ·rw[Bm,tI,one];omega
  | succ n ih=>
   refine⟨?_,?_⟩
   ·show(if tN g ch j (a+1+n)=0/\lK j (gR g ch ((a+1+n:Nat):Int))≠0 then a+1+n else aEU g ch j (a+1+n))=a;rw[if_neg fun h=>ih.2 h.1,ih.1]
   ·show tN g ch j (a+1+n)+_≠0;have:=ih.2;omega
 obtain⟨n,hn⟩:∃n,z=a+1+n:=⟨z - (a+1),au⟩;rw[ea,hn,(fin n).1]
theorem aFg(G:fH g)(hf:aBL g ch):∀ {f i s:Nat},i<g.bw.length->g.bw.length<=f+i->1<=(iE g (rB .ce ch) f i s).length/\∃e:Nat,aHN (iE g (rB .ce ch) f i s)=(e:Int)/\e<g.bw.length/\(cj g e).kind=3/\∀j,(cj g j).kind=3->lK j (iE g (rB .ce ch) f i s)=if j=e then 1 else 0
 | 0,i,s,hi,hn=>by omega
 | f+1,i,s,hi,hn=>by
  simp only[iE];by_cases h3:(cj g i).kind=3
  ·rw[if_pos h3];refine⟨Af _,i,rfl,hi,h3,fun j hj=>?_⟩;show(if(i:Int)=(j:Int) then 1 else 0)+0=_;by_cases e:j=i
   ·rw[if_pos e,if_pos au]
   ·rw[if_neg e,if_neg au]
  ·rw[if_neg h3,aGV,aCf];have hlt:=aD0 G hf hi h3 (Dj s (uP G hi));have⟨b1,b2⟩:=G.good.kids i hi _ hlt;have⟨c1,e,c2,c3,c4,c5⟩:=aFg G hf (f:=f) (i:=((cj g i).next.getD (nN g ch i (s % wN g i)) 0).toNat) (s:=s / wN g i) au au;refine⟨by rw[Av];omega,e,by rw[aI3 c1];exact c2,c3,c4,fun j hj=>?_⟩;show(if(i:Int)=(j:Int) then 1 else 0)+lK j _=_;rw[if_neg (fun x=>h3 (by rw[show i=j by omega];exact hj)),Ao];exact c5 j hj
theorem aFe{c c':Nat->Int}{p:Nat}:∀ {n:Nat},gD g (fun j=>c j+c' j) p n=gD g c p n+gD g c' p n
 | 0=>rfl
 | n+1=>by
  show gD g (fun j=>c j+c' j) p n+rU g (fun j=>c j+c' j) p n=(gD g c p n+rU g c p n)+(gD g c' p n+rU g c' p n);have e:rU g (fun j=>c j+c' j) p n=rU g c p n+rU g c' p n:=by
   unfold rU;split
   ·exact Hm ..
   ·rfl
  rw[aFe (n:=n),e];omega
theorem aFx{c:Nat->Int}{p e:Nat}(he:(cj g e).kind=3)(hc:∀j,(cj g j).kind=3->c j=if j=e then 1 else 0):∀ {n:Nat},gD g c p n=if e<n then(cj g e).pay.getD p 0 else 0
 | 0=>rfl
 | n+1=>by
  show gD g c p n+rU g c p n=_;rw[aFx he hc (n:=n)];unfold rU;by_cases h3:(cj g n).kind=3
  ·rw[if_pos h3,hc n h3];by_cases e1:n=e
   ·subst e1;rw[if_neg au,if_pos rfl,if_pos au,Int.mul_one,Int.zero_add]
   ·rw[if_neg e1,Int.mul_zero,Int.add_zero];by_cases h:e<n
    ·rw[if_pos h,if_pos au]
    ·rw[if_neg h,if_neg au]
  ·rw[if_neg h3,Int.add_zero];have:e≠n:=fun x=>h3 (by rw[<-x];exact he);by_cases h:e<n
   ·rw[if_pos h,if_pos au]
   ·rw[if_neg h,if_neg au]
theorem aDj{p:Nat}:∀ {n:Nat},gD g (fun _=>0) p n=0
 | 0=>rfl
 | n+1=>by
  show gD g (fun _=>0) p n+rU g (fun _=>0) p n=0;rw[aDj (n:=n)];unfold rU;split
  ·rw[Int.mul_zero];rfl
  ·rfl
theorem aDm(G:fH g)(hf:aBL g ch)(s:Nat):∃e:Nat,e<g.bw.length/\(cj g e).kind=3/\aAa g ch (s:Int)=(cj g e).pay/\∀j,(cj g j).kind=3->lK j (gR g ch (s:Int))=if j=e then 1 else 0:=by
 have⟨c1,e,c2,c3,c4,c5⟩:=aFg G hf (f:=g.bw.length) (i:=0) (s:=(s:Int).toNat) G.good.n1 au;refine⟨e,c3,c4,?_,c5⟩;unfold aAa gR;unfold aHN at c2;rw[c2,Bd]
theorem aFA(G:fH g)(hf:aBL g ch){p:Nat}:∀ {s:Nat},aBd g ch p s=gD g (fun j=>((tN g ch j s:Nat):Int)) p g.bw.length
 | 0=>aDj.symm
 | s+1=>by
  have⟨e,h1,h2,h3,h4⟩:=aDm G hf s;show aBd g ch p s+(aAa g ch (s:Int)).getD p 0=_;have e1:(fun j=>((tN g ch j (s+1):Nat):Int))=fun j=>((tN g ch j s:Nat):Int)+((lK j (gR g ch (s:Int)):Nat):Int):=by
   funext j;rw[tI,Int.natCast_add]
  rw[e1,aFe,<-aFA G hf (s:=s),h3,aFx h2 (fun j hj=>by rw[h4 j hj];split<;>rfl),if_pos h1]
theorem wO.pays(M:wO g ch pr z cn ls pl){p:Nat}:aBd g ch p z=gD g cn p g.bw.length:=by
 rw[aFA M.R.G M.fit];exact xF fun j hj=>M.fnd hj
theorem aKt(G:fH g)(hP:aAV g)(hf:aBL g ch){p s:Nat}: -1000000<=(aAa g ch (s:Int)).getD p 0/\(aAa g ch (s:Int)).getD p 0<=1000000:=by
 have⟨e,h1,h2,h3,h4⟩:=aDm G hf s;rw[h3];exact aJG hP h1 h2
theorem aK8(G:fH g)(hP:aAV g)(hf:aBL g ch){p:Nat}:∀ (s:Nat), -((s:Int) * 1000000)<=aBd g ch p s/\aBd g ch p s<=(s:Int) * 1000000:=by
 intro s
 induction s with
 | zero=>exact⟨Int.le_refl 0,Int.le_refl 0⟩
 | succ s ih=>
  have h2:=aKt G hP hf (p:=p) (s:=s);have e:aBd g ch p (s+1)=aBd g ch p s+(aAa g ch (s:Int)).getD p 0:=rfl;rw[e];generalize aBd g ch p s=a at ih;generalize (aAa g ch (s:Int)).getD p 0=b at h2;rw[Int.natCast_add,Hc];omega
end
variable {fns:T dD}
theorem aJz{S:St}{nv iv cv:AV}{g:bD}{l:bm}{pr:Nat->Nat}{s:Int}(H:Has fns)(hn:bH 6 dC S nv g.bw)(hi:bH 2 fO S iv g.bz)(hc:cH .i64 S cv l)(hln:g.bw.length<=100000)(hll:l.length<=10000000)(hs:s<=9223372036854775807)(hpr:eO g=0->nC g pr):
  eT fns (.fn 17 [] []) [.agg [.int .i64 g.b9,nv,iv],cv,.int .i64 s] S fun r X=>aQR S cv g l pr s r X/\∀x y c,r= .tup [x,y]->bP x=some c->S.nx<=c:=by
 refine bL H.f17 (by simp) ?_;refine ae ?_;refine bK ?_;refine cD (cs:=[.int .i64 g.b9,nv,iv]) rfl ?_;intro S1 s1 n1 c1;refine ae ?_;refine bK (cp (jT c1) ?_);refine aL (ae ?_);refine aF (sA (pr:=pr) H (bH.same (E:=dC) cR hn s1) (bH.same (E:=fO) fC hi s1) (hc.same s1) hln hll hpr) ?_;rintro _ X ⟨hX,rfl⟩;have sX:=s1.trans hX;have cX:=(hX.2 _ (show S.nx<S1.nx by omega)).trans c1;refine c9 @tU @tP ?_;refine fA (ae ?_);by_cases h1:kN g l pr=0;rotate_left
 ·have hE:lM g l pr s=kN g l pr:=by unfold lM;rw[if_pos h1]
  refine aP (by simp only[↓sU,sD,rE,↓reduceIte,rA,Ac (show kN g l pr≠0 from h1)]) ?_;refine bK (ae ?_);refine aK (ae ?_);exact⟨⟨sX,.ce,by rw[hE],fun _=>rfl,fun h=>absurd (hE.symm.trans h) h1⟩,fun x y c h hc=>by cases h;cases hc⟩
 refine aO (by simp only[↓sU,sD,rE,↓reduceIte,rA,Aa (show ¬kN g l pr≠0 from fun h=>h h1)]) (aJ ?_);try refine ae ?_
 have hE:lM g l pr s=if s<0\/aBO g l pr<=s then 2 else 0:=by unfold lM;rw[if_neg (fun h=>h h1)]
 refine fA ?_;by_cases hneg:s<0
 ·rw[if_pos (.inl hneg)] at hE;refine cp (Ac hneg) ?_;refine aP (af) ?_;refine bK (ae ?_);refine aK (ae ?_);exact⟨⟨sX,.ce,by rw[hE],fun _=>rfl,fun h=>by rw[hE] at h;cases h⟩,fun x y c h hc=>by cases h;cases hc⟩
 by_cases hge:aBO g l pr<=s
 ·rw[if_pos (.inr hge)] at hE;refine cp (Aa hneg) ?_;refine aP (by simp only[↓sU,sD,rE,↓reduceIte,rA,Ac hge]) ?_;refine bK (ae ?_);refine aK (ae ?_);exact⟨⟨sX,.ce,by rw[hE],fun _=>rfl,fun h=>by rw[hE] at h;cases h⟩,fun x y c h hc=>by cases h;cases hc⟩
 rw[if_neg au] at hE;refine cp (Aa hneg) ?_;refine aO (by simp only[↓sU,sD,rE,↓reduceIte,rA,Aa hge]) (aJ ?_);try refine ae ?_
 have⟨h0,hch⟩:=yP h1;have G:=rF h0;have⟨hlen,hok⟩:=zE hch;obtain⟨n,rfl⟩:∃n:Nat,s=(n:Int):=⟨s.toNat,au⟩;have hm:dK (.mkIface 65 (.t 27))=false:=rfl;refine bK (c9 (jT cX) hm ?_);rw[mkF (v:=cv) (af)];refine ae ?_;refine aL (ae ?_);have hcX:=hc.same sX;refine aF (wU (D:=rB cv l) (s:=n) H G (bH.same (E:=dC) cR hn sX) (fun i hi hk=>aJa H G hcX hlen hok hi hk) au) ?_;rintro r Y ⟨hY,hr,hfr⟩;try refine ae ?_
 refine aK (ae ?_);exact⟨⟨sX.trans hY,r,by rw[hE],fun h=>absurd hE h,fun _=>by rw[Bd];exact hr⟩,fun x y c h hc=>by cases h;have h1:=hfr c hc;have:=sX.1;omega⟩
theorem aEQ{S:St}{v:AV}{l:bm}(H:Has fns)(h:cH .i64 S v l)(hl:l.length<=100000):eT fns (.fn 42 [] []) [v] S fun r X=>Same S X/\cH .i64 X r l/\(∀c,bP r=some c->S.nx<=c)/\(l≠ []->lN 1 S X r l.length (bE l)):=by
 refine bL H.f42 (by simp) ?_;refine ae ?_;refine bK (ae ?_);by_cases hv:v= .ce
 ·have hl0:l= []:=by
   rcases h with⟨h,_⟩ | ⟨b,off,cap,o,cs,rfl,_⟩
   ·exact h
   ·cases hv
  subst hv;subst hl0;have he:kA .eql (.p .slice) .ce .ce=some (.bool true):=rfl;refine fA (cp he ?_);refine aP (af) ?_;refine bK (ae ?_);refine aK (ae ?_);exact⟨Same.refl S,.inl ⟨rfl,.inl rfl⟩,fun c hc=>(by cases hc),fun h=>absurd rfl h⟩
 ·have he:kA .eql (.p .slice) v .ce=some (.bool false):=by
   rcases h with⟨_,rfl | rfl⟩ | ⟨b,off,cap,o,cs,rfl,_⟩
   ·exact absurd rfl hv
   ·rfl
   ·rfl
  refine fA (cp he ?_);refine aO (af) (aJ ?_);try refine ae ?_
  refine bK ?_;refine oR aIw ?_;intro S1 s1 n1 g1;refine ap ?_;have⟨r,S2,e,s2,hr⟩:=aDp g1 (h.same s1) hl;refine fK (fun call=>by refine dz @jJ ?_;exact e) ?_;refine ap ?_;refine aK (ap ?_);refine⟨s1.trans s2,?_⟩;rcases hr with⟨rfl,rfl,rfl⟩ | ⟨hg,hne⟩
  ·refine⟨.inr ⟨S.nx,0,0,false,[],rfl,Af _,au,by unfold cA;rw[g1];rfl,fun i a hi=>by simp at hi⟩,fun c hc=>by cases hc;exact Af _,fun h=>absurd rfl h⟩
  ·exact⟨hg.is,fun c hc=>Bb s1.1 (hg.blk hc).1,fun _=>hg.low s1.1⟩
theorem aLZ{S:St}{nv iv cv:AV}{g:bD}{l:bm}{pr:Nat->Nat}{s:Int}(H:Has fns)(hn:bH 6 dC S nv g.bw)(hi:bH 2 fO S iv g.bz)(hc:cH .i64 S cv l)(hln:g.bw.length<=100000)(hll:l.length<=10000000)(hs:s<=9223372036854775807)(hpr:eO g=0->nC g pr):
  eT fns (.fn 19 [] []) [.agg [.int .i64 g.b9,nv,iv],cv,.int .i64 s] S fun r X=>aT3 S g l pr s r X/\∀x y c,r= .tup [x,y]->bP x=some c->S.nx<=c:=by
 refine bL H.f19 (by simp) ?_;refine ae ?_;refine bK ?_;refine cD (cs:=[.int .i64 g.b9,nv,iv]) rfl ?_;intro S1 s1 n1 c1;refine ae ?_;refine bK (cp (jT c1) ?_);refine aL (ae ?_);refine aF (aLJ (pr:=pr) H (bH.same (E:=dC) cR hn s1) (bH.same (E:=fO) fC hi s1) (hc.same s1) hln hll hs hpr) ?_;rintro _ X ⟨hX,x,rfl,hx1,hx0⟩;have sX:=s1.trans hX;have lgX:S.nx<X.nx:=Ag (show S.nx<S1.nx by omega) hX.1;have cX:=(hX.2 _ (show S.nx<S1.nx by omega)).trans c1;refine c9 @tU @tP ?_;refine fA (ae ?_);by_cases h1:lM g l pr s=0;rotate_left
 ·refine aP (by simp only[↓sU,sD,rE,↓reduceIte,rA,Ac (show lM g l pr s≠0 from h1)]) ?_;refine bK (ae ?_);refine aK (ae ?_);exact⟨⟨sX,.ce,rfl,fun _=>rfl,fun h=>absurd h h1⟩,fun x y c h hc=>by cases h;cases hc⟩
 refine aO (by simp only[↓sU,sD,rE,↓reduceIte,rA,Aa (show ¬lM g l pr s≠0 from fun h=>h h1)]) (aJ ?_);try refine ae ?_
 have⟨G,he,hp1,hp2,hpa,hpl⟩:=aC3 (s:=s) H hc h1;have hx:=hx0 h1;rw[he] at hx;have hlt:(gR g l s).length - 1<(gR g l s).length:=by omega
 have⟨a1,a2⟩:=hpa _ hlt;have hxl:=hx.len;have w0:IntKind.i64.wrap (((gR g l s).length:Nat) - 1:Int)=(((gR g l s).length - 1:Nat):Int):=by rw[wrap_i64 au au];omega
 have ia:=hx.cq hlt;have la:=hx.ld hlt;have⟨b1,o1,hp,lb1⟩:=cH.place hx hlt;rw[hp] at ia la;have hnn:=aII (k:=.i64) a1;obtain⟨_,bx,qx,hiax,hbx,_,⟨xa,xw,xp,rfl,hxa,hxw,hxp⟩,hldx,hfx⟩:=bH.at (bH.same (E:=dC) cR hn sX) ay (iK (show((gR g l s).getD ((gR g l s).length - 1) 0).toNat<g.bw.length by omega));have l5:=hfx 5 _ rfl;have snv:=bH.self hn;have sxp:=cH.self hxp;refine aE (fJ (fun _=>False) ?_);intro Y sY;simp only[↓sU,sD,rE,↓reduceIte,rA,aD,aX,aC,mO cX,lgX,Am,snv,hxl,Ak,w0,aW,ia,la,lb1,hnn,hiax,l5,hbx,sxp];refine cF rfl ?_;refine ae ?_;have hp4:=G.good.pay ((gR g l s).getD ((gR g l s).length - 1) 0).toNat au;refine aF (aEQ H (hxp.same sY) au) ?_;rintro r Z ⟨hZ,hr,hfr, -⟩;refine⟨hZ,?_⟩;try refine ae ?_
 refine aK (ae ?_);exact⟨⟨sX.trans (sY.trans hZ),r,by rw[h1],fun h=>absurd h1 h,fun _=>hr⟩,fun x y c h hc=>by cases h;have h1:=hfr c hc;have:=sX.1;have:=sY.1;omega⟩
end Go.Ev.Gl
