import Derived.Test.YtiiplmagnlcpbaaGreatDoorGl10
set_option linter.unusedSimpArgs false
set_option linter.unusedVariables false
open Nat renaming reduceEqDiff -> rE, reduceAdd -> rA
set_option maxHeartbeats 0
namespace Go.Ev.Gl
variable {fns:T dD}
def vJ(l:bm):Prop:=l.length<=1000/\∀x∈l,0<=x/\x<=1073741824
theorem aCZ{l:bm}{i:Nat}(hi:i<l.length):(l.take (i+1)).sum=(l.take i).sum+l.getD i 0:=by
 rw[Dh,List.sum_append,Ae,Ad hi];simp
theorem aFE:∀ {l:bm},(∀x∈l,0<=x/\x<=1073741824)->0<=l.sum/\l.sum<=(l.length:Int) * 1073741824
 | [],_=>⟨by simp,by simp⟩
 | x::l,h=>by
  have h1:=h x (Bn ..);have h2:=aFE (l:=l) fun y hy=>h y (Bf _ hy);rw[Ea,Av];constructor
  ·omega
  ·have:((l.length+1:Nat):Int) * 1073741824=(l.length:Int) * 1073741824+1073741824:=by omega
   omega
theorem vJ.sum_le{l:bm}(h:vJ l)(i:Nat):0<=(l.take i).sum/\(l.take i).sum<=1073741824000:=by
 have h1:=aFE (l:=l.take i) fun x hx=>h.2 x (Ek hx);have h2:(l.take i).length<=1000:=Bb (List.length_take_le' ..) h.1;omega
theorem vJ.all{l:bm}(h:vJ l):0<=l.sum/\l.sum<=1073741824000:=by
 have:=h.sum_le l.length
 rwa [Fk] at this
def aQj(S:St)(l:bm)(a b:Nat)(P:Fr->Prop)(k:Nat)(A:bN)(X:St):Prop:=A.inr=false/\Same S X/\∃i,i+k=l.length/\P A.F/\aB a A.F= .int .i64 (l.take i).sum/\aB b A.F= .int .i64 (i:Int)
theorem aIN{S:St}{v:AV}{l:bm}(H:Has fns)(hl:cH .i64 S v l)(hs:vJ l):eT fns (.fn 73 [] []) [v] S fun r S'=>r= .int .i64 l.sum/\Same S S':=by
 have hl1:=hs.1;refine bL H.f73 (by simp) ?_;refine ae ?_;refine bK (ae ?_);refine bK (ae ?_);refine aE (bG (Q:=fun o A' X=>o= .normal/\aQj S l 3 8 (fun F=>aB 6 F=v/\aB 7 F= .int .i64 (l.length:Int)) 0 A' X) (aE (aM ?_)) ?_)
 ·refine c9 hl.len @Ak ?_;refine aQ (bX (aQj S l 3 8 (fun F=>aB 6 F=v/\aB 7 F= .int .i64 (l.length:Int))) ?_ l.length _ _ ⟨rfl,Same.refl _,0,au,(by refine⟨?_,?_⟩<;>simp only[↓sU,sD,rE,↓reduceIte,rA]),by simp only[↓sU,sD,rE,↓reduceIte,rA];rfl,af⟩);rintro k ⟨F,inr⟩ X ⟨q0,hX,i,hik,⟨p6,p7⟩,p3,p8⟩;simp only at q0 p3 p6 p7 p8;subst q0;refine bK (c9 p7 p8 ?_);by_cases hlt:i<l.length
  ·refine aE (aP (by simp only[↓sU,sD,rE,↓reduceIte,rA,Ac (show(i:Int)<(l.length:Int) by omega)]) (aJ ?_));try refine ae ?_
   have ia:=(hl.same hX).cq hlt;have la:=(hl.same hX).ld hlt;have hb:=hs.sum_le (i+1);have w1:=dk i
   have w2:IntKind.i64.wrap ((l.take i).sum+l.getD i 0)=(l.take (i+1)).sum:=by rw[<-aCZ hlt];exact wrap_i64 au au
   refine aE (aQ (aE (aM ?_)));refine du p6 p8 @aW ia la ?_;refine aM (c9 p3 w2 ?_);refine aM (c9 p8 w1 ?_);exact⟨k - 1,au,rfl,hX,i+1,au,(by refine⟨?_,?_⟩<;>simp only[↓sU,sD,rE,↓reduceIte,rA,p6,p7]),by refine⟨?_,?_⟩<;>simp only[↓sU,sD,rE,↓reduceIte,rA]⟩
  ·refine aE (aO (by simp only[↓sU,sD,rE,↓reduceIte,rA,Aa (show ¬ (i:Int)<(l.length:Int) by omega)]) (bS ?_));refine ae ?_;have hk0:k=0:=by omega
   subst hk0;exact⟨rfl,hX,i,hik,(by refine⟨?_,?_⟩<;>simp only[↓sU,sD,rE,↓reduceIte,rA,p6,p7]),by refine⟨?_,?_⟩<;>simp only[↓sU,sD,rE,↓reduceIte,rA,p3,p8]⟩
 rintro o ⟨F,inr⟩ X ⟨rfl,q0,hX,i,hik,_,p3,p8⟩;simp only at q0 p3;subst q0;rw[Ay au] at p3;try refine ae ?_
 refine bK (cp p3 ?_);refine aK (ae ?_);exact hX
theorem aAI{S:St}{c:AV}{cs:bo}{x:dI}(H:Has fns)(hc:c.cells=some [])(hx:dC S cs x)(hs:vJ x.weights):eT fns (.fn 52 [] []) [c,.agg cs] S fun r S'=>r= .int .i64 x.weights.sum/\Same S S':=by
 obtain⟨xa,xw,xp,rfl,hxa,hxw,hxp⟩:=hx;have hl1:=hs.1;refine bL H.f52 (by simp) ?_;refine ae ?_;refine bK ?_;refine cD (cs:=[]) (by refine ae ?_;exact hc) ?_;intro S0 s0 n0 c0;refine cD (by refine ae ?_;exact aS _) ?_;intro S1 s1 n1 c1;refine ae ?_;have sS:=s0.trans s1;have hl:=hxw.same sS;refine bK (ae ?_);refine aE (bG (Q:=fun o A' X=>o= .normal/\aQj S1 x.weights 5 11 (fun F=>aB 9 F=xw/\aB 10 F= .int .i64 (x.weights.length:Int)) 0 A' X) (aE (aM ?_)) ?_)
 ·refine du @aD @aC (kE c1) hl.len @Ak ?_;refine aQ (bX (aQj S1 x.weights 5 11 (fun F=>aB 9 F=xw/\aB 10 F= .int .i64 (x.weights.length:Int))) ?_ x.weights.length _ _ ⟨rfl,Same.refl _,0,au,(by refine⟨?_,?_⟩<;>simp only[↓sU,sD,rE,↓reduceIte,rA]),by simp only[↓sU,sD,rE,↓reduceIte,rA];rfl,af⟩);rintro k ⟨F,inr⟩ X ⟨q0,hX,i,hik,⟨p9,p10⟩,p5,p11⟩;simp only at q0 p5 p9 p10 p11;subst q0;refine bK (c9 p10 p11 ?_);by_cases hlt:i<x.weights.length
  ·refine aE (aP (by simp only[↓sU,sD,rE,↓reduceIte,rA,Ac (show(i:Int)<(x.weights.length:Int) by omega)]) (aJ ?_));try refine ae ?_
   have ia:=(hl.same hX).cq hlt;have la:=(hl.same hX).ld hlt;have hb:=hs.sum_le (i+1);have w1:=dk i
   have w2:IntKind.i64.wrap ((x.weights.take i).sum+x.weights.getD i 0)=(x.weights.take (i+1)).sum:=by rw[<-aCZ hlt];exact wrap_i64 au au
   refine aE (aQ (aE (aM ?_)));refine du p9 p11 @aW ia la ?_;refine aM (c9 p5 w2 ?_);refine aM (c9 p11 w1 ?_);exact⟨k - 1,au,rfl,hX,i+1,au,(by refine⟨?_,?_⟩<;>simp only[↓sU,sD,rE,↓reduceIte,rA,p9,p10]),by refine⟨?_,?_⟩<;>simp only[↓sU,sD,rE,↓reduceIte,rA]⟩
  ·refine aE (aO (by simp only[↓sU,sD,rE,↓reduceIte,rA,Aa (show ¬ (i:Int)<(x.weights.length:Int) by omega)]) (bS ?_));refine ae ?_;have hk0:k=0:=by omega
   subst hk0;exact⟨rfl,hX,i,hik,(by refine⟨?_,?_⟩<;>simp only[↓sU,sD,rE,↓reduceIte,rA,p9,p10]),by refine⟨?_,?_⟩<;>simp only[↓sU,sD,rE,↓reduceIte,rA,p5,p11]⟩
 rintro o ⟨F,inr⟩ X ⟨rfl,q0,hX,i,hik,_,p5,p11⟩;simp only at q0 p5;subst q0;rw[Ay au] at p5;try refine ae ?_
 refine bK (cp p5 ?_);refine aK (ae ?_);exact sS.trans hX
def zJ(z p:Nat):Option Nat:=if 1000000000000000<z / Nat.gcd z p * p then none else some (z / Nat.gcd z p * p)
theorem aGe{x y m:Nat}(hy:0<y):m / y<x↔m<x * y:=by
 rw[Ed hy]
def jD:bm->Int->Nat
 | [],_=>0
 | w::l,d=>if d<w then 0 else jD l (d - w)+1
theorem aDz:∀ {l:bm} {d:Int},0<=d->d<l.sum->jD l d<l.length
 | [],d,h0,h=>by simp at h;omega
 | w::l,d,h0,h=>by
  simp only[jD];rw[Ea] at h;split
  ·simp
  ·have:=aDz (l:=l) (d:=d - w) au au;rw[Av];omega
def aTD(S:St)(l:bm)(d0:Int)(P:Fr->Prop)(a b:Nat)(k:Nat)(A:bN)(X:St):Prop:=A.inr=false/\Same S X/\∃i d,i+k=l.length/\P A.F/\0<=d/\d<=d0/\d<(l.drop i).sum/\jD l d0=i+jD (l.drop i) d/\aB a A.F= .int .i64 d/\aB b A.F= .int .i64 (i:Int)
theorem aJE{l:bm}{i:Nat}(hi:i<l.length):l.drop i=l.getD i 0::l.drop (i+1):=by
 rw[Bw hi,Ae,Ad hi];rfl
theorem aMD{S:St}{v:AV}{l:bm}{d:Int}(H:Has fns)(hl:cH .i64 S v l)(hs:vJ l)(h0:0<=d)(hd:d<l.sum):eT fns (.fn 175 [] []) [v,.int .i64 d] S fun r S'=>r= .int .i64 ((jD l d:Nat):Int)/\Same S S':=by
 have hl1:=hs.1;have hall:=hs.all;refine bL H.f175 (by simp) ?_;refine ae ?_;refine bK (ae ?_);refine aE (bG (Q:=fun o A' X=>o= .ret/\Same S X/\aB 4 A'.F= .int .i64 ((jD l d:Nat):Int)) (aE (aM ?_)) ?_)
 ·refine c9 hl.len @Ak ?_;refine aQ (bX (aTD S l d (fun F=>aB 7 F=v/\aB 8 F= .int .i64 (l.length:Int)) 1 9) ?_ l.length _ _ ⟨rfl,Same.refl _,0,d,au,(by refine⟨?_,?_⟩<;>simp only[↓sU,sD,rE,↓reduceIte,rA]),h0,au,by rw[Dn];exact hd,by rw[Dn,Ao],by refine⟨?_,?_⟩<;>simp only[↓sU,sD,rE,↓reduceIte,rA]⟩);rintro k ⟨F,inr⟩ X ⟨q0,hX,i,d',hik,⟨p7,p8⟩,hd0,hd1,hd2,he,p1,p9⟩;simp only at q0 p1 p7 p8 p9;subst q0;have hlt:i<l.length:=by
   rcases Bj i l.length with h | h
   ·exact h
   ·rw[Dp h] at hd2;simp at hd2;omega
  refine bK (c9 p8 p9 ?_);refine aE (aP (by simp only[↓sU,sD,rE,↓reduceIte,rA,Ac (show(i:Int)<(l.length:Int) by omega)]) (aJ ?_));try refine ae ?_
  have ia:=(hl.same hX).cq hlt;have la:=(hl.same hX).ld hlt;have hmem:l.getD i 0∈l:=by rw[Ae,Ad hlt];exact Cv _
  have hw:=hs.2 _ hmem;rw[aJE hlt] at hd2 he;rw[Ea] at hd2;simp only[jD] at he;have w1:=dk i
  have w2:IntKind.i64.wrap (d' - l.getD i 0)=d' - l.getD i 0:=wrap_i64 au au;refine aE (aQ (aE (aM ?_)));refine du p7 p9 @aW ia la ?_;refine fA (cp p1 ?_);by_cases hlw:d'<l.getD i 0
  ·rw[if_pos hlw] at he;refine aP (by simp only[↓sU,sD,rE,↓reduceIte,rA,Ac hlw]) ?_;refine bK (ae ?_);refine aK (ae ?_);exact⟨hX,by rw[he];rfl⟩
  ·rw[if_neg hlw] at he;refine aO (by simp only[↓sU,sD,rE,↓reduceIte,rA,Aa hlw]) (aJ ?_);try refine ae ?_
   refine aM (c9 p1 w2 ?_);refine aM (c9 p9 w1 ?_);exact⟨k - 1,au,rfl,hX,i+1,d' - l.getD i 0,au,(by refine⟨?_,?_⟩<;>simp only[↓sU,sD,rE,↓reduceIte,rA,p7,p8]),au,au,au,au,by refine⟨?_,?_⟩<;>simp only[↓sU,sD,rE,↓reduceIte,rA]⟩
 rintro o ⟨F,inr⟩ X ⟨rfl,hX,p4⟩;simp only at p4;refine cp p4 ?_;exact hX
theorem zC{id:Nat}{v:AV}{args:bo}{S:St}{Q:AV->St->Prop}(h:eT fns (.fn id [] []) (v::args) S Q):eT fns (.fn id [v] []) args S Q:=by
 have⟨n,r,S',h1,h2⟩:=h;cases n with
 | zero=>cases h1
 | succ n=>exact⟨n+1,r,S',h1,h2⟩
structure fH(g:bD):Prop where
 good:jI g
 knd:∀i,i<g.bw.length->(cj g i).kind=1\/(cj g i).kind=2\/(cj g i).kind=3
 chn:∀i,i<g.bw.length->(cj g i).kind=1->(∀w∈(cj g i).weights,1<=w/\w<=1000)/\1<=(cj g i).next.length/\(cj g i).next.length<=60
 mov:∀i,i<g.bw.length->(cj g i).kind=2->1<=(cj g i).next.length/\(cj g i).next.length<=10
 fin:∀i,i<g.bw.length->(cj g i).kind=3->(cj g i).next= []
 prs:1<=g.b9/\g.b9<=4
 pay:∀i,i<g.bw.length->(cj g i).kind=3->(((cj g i).pay.length:Nat):Int)=g.b9
theorem rF{g:bD}(h:eO g=0):fH g:=by
 have G:=aP2 h;unfold eO at h;split at h
 ·cases h
 rename_i hb;split at h
 ·rename_i h1;exact absurd h h1
 rename_i hN;have hN:=Hk.1 hN;unfold uI at hb;have hE:∀i,i<g.bw.length->jW g.b9 g.bz.length (cj g i)=0:=fun i hi=>lP hN _ (Cm (iK hi));refine⟨G,fun i hi=>?_,fun i hi hk=>?_,fun i hi hk=>?_,fun i hi hk=>?_,au,fun i hi hk=>?_⟩
 ·have:=hE i hi;unfold jW at this;split at this
  ·rename_i h1;exact .inl h1
  ·split at this
   ·rename_i h1;exact .inr (.inl h1)
   ·split at this
    ·rename_i h1;exact .inr (.inr h1)
    ·cases this
 ·have:=hE i hi;unfold jW at this;rw[if_pos hk] at this;split at this
  ·cases this
  ·rename_i hc;unfold uU at hc;split at this
   ·cases this
   ·rename_i ha;refine⟨fun w hw=>?_,au,au⟩;have hna:¬ (w<1\/1000<w):=fun h=>ha ⟨w,hw,h⟩;omega
 ·have:=hE i hi;unfold jW at this;rw[if_neg au,if_pos hk] at this;split at this
  ·cases this
  ·rename_i hc;unfold aAm at hc;omega
 ·have:=hE i hi;unfold jW at this;rw[if_neg au,if_neg au,if_pos hk] at this;split at this
  ·cases this
  ·rename_i hc;unfold wR at hc;exact Cf.1 au
 ·have:=hE i hi;unfold jW at this;rw[if_neg au,if_neg au,if_pos hk] at this;split at this
  ·cases this
  ·rename_i hc;unfold wR at hc;omega
theorem aKz:∀ {l:bm},(∀x∈l,1<=x)->l≠ []->1<=l.sum
 | [],_,h=>absurd rfl h
 | x::l,h,_=>by
  rw[Ea];have h1:=h x (Bn ..);by_cases hl:l= []
  ·subst hl;simpa using h1
  ·have:=aKz (l:=l) (fun y hy=>h y (Bf _ hy)) hl;omega
theorem fH.small{g:bD}(G:fH g){i:Nat}(hi:i<g.bw.length)(hk:(cj g i).kind=1):vJ (cj g i).weights/\1<=(cj g i).weights.sum:=by
 have⟨h1,h2,h3⟩:=G.chn i hi hk;have hl:=G.good.wts i hi hk;exact⟨⟨au,fun x hx=>by have:=h1 x hx;omega⟩,aKz (fun x hx=>(h1 x hx).1) (fun e=>by rw[e] at hl;simp at hl;omega)⟩
structure Dec where
 ty:Nat
 val:AV
 rad:dI->Nat
 chs:dI->Nat->Nat
def aTz:List (Nat×Nat×Option (Bool×Nat)):=[(65,172,none),(100,174,none),(102,52,none)]
def aSO:List (Nat×Nat×Option (Bool×Nat)):=[(65,171,none),(100,173,none),(102,176,none)]
structure aG9(fns:Ev.T dD)(S:St)(D:Dec)(x:dI):Prop where
 self:cQ D.val D.val=true
 pos:0<D.rad x
 le:D.rad x<=1073741824000
 lt:∀d,d<D.rad x->D.chs x d<x.next.length
 r:∃f,pS D.ty aTz=some (f,none)/\∀X cs,Same S X->dC X cs x->eT fns (.fn f [D.val] []) [.agg cs] X fun r X'=>r= .int .i64 ((D.rad x:Nat):Int)/\Same X X'
 c:∃f,pS D.ty aSO=some (f,none)/\∀X cs d,Same S X->dC X cs x->d<D.rad x->eT fns (.fn f [D.val] []) [.agg cs,.int .i64 ((d:Nat):Int)] X fun r X'=>r= .int .i64 ((D.chs x d:Nat):Int)/\Same X X'
def aSP:Dec:=⟨102,.agg [],fun x=>x.weights.sum.toNat,fun x d=>jD x.weights (d:Int)⟩
theorem aIn{S:St}{c:AV}{cs:bo}{x:dI}{d:Int}(H:Has fns)(hc:c.cells=some [])(hx:dC S cs x)(hs:vJ x.weights)(h0:0<=d)(hd:d<x.weights.sum):eT fns (.fn 176 [] []) [c,.agg cs,.int .i64 d] S fun r S'=>r= .int .i64 ((jD x.weights d:Nat):Int)/\Same S S':=by
 obtain⟨xa,xw,xp,rfl,hxa,hxw,hxp⟩:=hx;refine bL H.f176 (by simp) ?_;refine ae ?_;refine bK ?_;refine cD (cs:=[]) (by refine ae ?_;exact hc) ?_;intro S0 s0 n0 c0;refine cD (by refine ae ?_;exact aS _) ?_;intro S1 s1 n1 c1;refine ae ?_;refine bK (dh @aD @aC (kE c1) ?_);refine aL (ae ?_);refine aF (aMD H (hxw.same (s0.trans s1)) hs h0 hd) ?_;rintro _ X ⟨rfl,hX⟩;try refine ae ?_
 refine aK (ae ?_);exact(s0.trans s1).trans hX
theorem aM4{g:bD}{S:St}(H:Has fns)(G:fH g){i:Nat}(hi:i<g.bw.length)(hk:(cj g i).kind=1):aG9 fns S aSP (cj g i):=by
 have⟨hs,h1⟩:=G.small hi hk;have hall:=hs.all;have hl:=G.good.wts i hi hk;have hr:((((cj g i).weights.sum.toNat:Nat)):Int)=(cj g i).weights.sum:=Bu au;refine⟨rfl,?_,?_,fun d hd=>?_,⟨_,rfl,fun X cs hX hx=>zC ?_⟩,⟨_,rfl,fun X cs d hX hx hd=>zC ?_⟩⟩
 ·show 0<(cj g i).weights.sum.toNat;omega
 ·show(cj g i).weights.sum.toNat<=_;omega
 ·have hd:d<(cj g i).weights.sum.toNat:=hd;show jD (cj g i).weights (d:Int)<_;rw[<-hl];exact aDz au au
 ·show eT fns _ [.agg [],.agg cs] X fun r X'=>r= .int .i64 (((cj g i).weights.sum.toNat:Nat):Int)/\_;rw[hr];exact aAI H rfl hx hs
 ·have hd:d<(cj g i).weights.sum.toNat:=hd;exact aIn H rfl hx hs au au
def rB(v:AV)(l:bm):Dec:=⟨65,v,fun _=>1,fun x _=>(l.getD x.info.toNat 0).toNat⟩
theorem aJa{g:bD}{S:St}{v:AV}{l:bm}(H:Has fns)(G:fH g)(hv:cH .i64 S v l)(hl:l.length=g.bz.length)(hr:∀i,i<l.length->0<=l.getD i 0/\l.getD i 0<(ck g (i:Int)).cd){i:Nat}(hi:i<g.bw.length)(hk:(cj g i).kind=2):aG9 fns S (rB v l) (cj g i):=by
 have⟨a1,a2,a3⟩:=G.good.inf i hi hk;have hlt:(cj g i).info.toNat<l.length:=by omega
 have hc:=hr _ hlt;rw[show(((cj g i).info.toNat:Nat):Int)=(cj g i).info by omega,a3] at hc;refine⟨cH.self hv,Nat.one_pos,by show(1:Nat)<=_;omega,fun d _=>by show(l.getD _ 0).toNat<_;omega,⟨_,rfl,fun X cs hX hx=>zC ?_⟩,⟨_,rfl,fun X cs d hX hx _=>zC ?_⟩⟩
 ·refine bL H.f172 (by simp [rB]) ?_;refine ae ?_;refine bK ?_;refine cD (cs:=cs) (by refine ae ?_;exact aS _) ?_;intro S1 s1 n1 c1;refine ae ?_;refine bK (ae ?_);refine aK (ae ?_);exact⟨rfl,s1⟩
 ·obtain⟨xa,xw,xp,rfl,hxa,hxw,hxp⟩:=hx;refine bL H.f171 (by simp [rB]) ?_;refine ae ?_;refine bK ?_;refine cD (by refine ae ?_;exact aS _) ?_;intro S1 s1 n1 c1;have hvX:=hv.same (hX.trans s1);have ia:=hvX.cq hlt;have la:=hvX.ld hlt;have hni:=aII (k:=.i64) a1;have e:((((l.getD (cj g i).info.toNat 0).toNat:Nat)):Int)=l.getD (cj g i).info.toNat 0:=Bu hc.1;refine ae ?_;refine bK ?_;simp only[↓sU,sD,rE,↓reduceIte,rA,rB,aD,aC,kC c1,hni,ia,la];refine aK ?_;simp only[↓sU,sD,rE,↓reduceIte,rA,e];exact s1
theorem aQc{S:St}{cs:bo}{x:dI}{dv:AV}(H:Has fns)(hx:dC S cs x):eT fns (.fn 76 [] []) [.agg cs,dv] S fun r S'=>r=(if x.kind=1 then .iface 102 (.agg []) else dv)/\Same S S':=by
 obtain⟨xa,xw,xp,rfl,hxa,hxw,hxp⟩:=hx;refine bL H.f76 (by simp) ?_;refine ae ?_;refine bK ?_;refine cD (by refine ae ?_;exact aS _) ?_;intro S1 s1 n1 c1;refine ae ?_;refine fA (dh @aD @aC (mN c1) ?_);by_cases hk:x.kind=1
 ·rw[if_pos hk];have hb:∀ (F:Fr) (h:Ev.T AB),iT (.build [] []) F h=some (.agg []):=fun _ _=>rfl;have hm:∀ (F:Fr) (h:Ev.T AB),aB 8 F= .agg []->iT (.mkIface 102 (.t 8)) F h=some (.iface 102 (.agg [])):=fun F h e=>by show some (AV.iface _ (aB 8 F))=_;rw[e]
  refine aP (by simp only[↓sU,sD,rE,↓reduceIte,rA,Ac hk]) ?_;refine bK (dh @gL hb hm ?_);refine aK (ae ?_);exact s1
 ·rw[if_neg hk];refine aO (by simp only[↓sU,sD,rE,↓reduceIte,rA,Aa hk]) (aJ ?_);try refine ae ?_
  refine bK (ae ?_);refine aK (ae ?_);exact s1
noncomputable def asC:AC:=.reg [mt 8 13]
noncomputable def bdC:AC:=.block 1 (.reg [oq 14 (ld 7),
mt 15 8,
⟨(some 16),(.a (.cm 3 1 1 [(.int .i64 (.ofNat 0))] [(0,(.t 15))])),none,0⟩,
⟨(some 17),(.x (.app 3 1 8 (.t 14) (.t 16))),none,0⟩,
⟨none,(.x (.st 1 (.t 7) (.t 17))),none,0⟩])
theorem aKc{X0 X:St}{l tb:Nat}{pend:Option Out}{fr:Fr}{pv:AV}{p:bm}{i:Int}(hl:X.h.get l=some (.loop .ready pend fr [13] asC bdC))(h7:aB 7 fr= .ptr tb 0)(ht:X.h.get tb=some (.cells [pv] false 0))(hg:lN 1 X0 X pv p.length (bE p))(hX:X0.nx<=X.nx)(ll:l<X0.nx)(lt:tb<X0.nx)(ne:l≠tb)(hp:p.length<=100000):
  eT fns (.yld l) [.int .i64 i] X fun r X'=>r= .bool true/\X.nx<=X'.nx/\(∀c,c<X0.nx->c≠l->c≠tb->X'.h.get c=X.h.get c)/\X'.h.get l=some (.loop .ready none fr [13] asC bdC)/\∃pv',X'.h.get tb=some (.cells [pv'] false 0)/\lN 1 X0 X' pv' (p++ [i]).length (bE (p++ [i])):=by
 refine aPH (F:=cJ (some 13) fr (.int .i64 i)) hl rfl (aM ?_);refine ae ?_;refine⟨pend,fr,[13],asC,hl,?_⟩;have hb:∀ {c},bP pv=some c->X0.nx<=c/\c<X.nx:=fun hc=>⟨(hg.blk hc).1,(hg.blk hc).2.1⟩;generalize hX1:(⟨X.h.set l (some (.loop .busy pend fr [13] asC bdC)),X.nx⟩:St)=X1;have k1:∀c,c≠l->X1.h.get c=X.h.get c:=fun c hc=>by rw[<-hX1];simp only;rw[dq,if_neg hc]
 have kl:X1.h.get l=some (.loop .busy pend fr [13] asC bdC):=by rw[<-hX1];simp only;rw[dq,if_pos rfl]
 have n1:X1.nx=X.nx:=by rw[<-hX1]
 have hld:=eE (p:=0) ((k1 tb (Dy ne)).trans ht) rfl;show nD fns (.block 1 (.reg _)) _ _ _;refine aQ (aM ?_);refine d7 h7 hld ?_;refine oR (lI (n:=i) (k:=.i64) ?_) ?_
 ·simp only[↓stU,aG,rE,↓reduceIte,rA]
 intro X2 x2 m2 g2;have gv2:lN 1 ⟨X2.h,X0.nx⟩ X2 pv p.length (bE p):=hg.move au fun c hc=>by
  have⟨h1,h2⟩:=hb hc;rw[x2.2 _ au,k1 _ au]
 have⟨pv',X3,eA,gA,bA,nA,rA⟩:=lN.push1 (bytes:=8) (x:=.int .i64 i) gv2 ⟨by show X0.nx<=X2.nx;omega,fun _ _=>rfl⟩ g2 ax ax;refine fK (fun call=>by refine dz @jJ ?_;exact eA) ?_;have ht3:X3.h.get tb=some (.cells [pv] false 0):=by
  rw[rA _ au (fun e=>by have:=(hb e).1;omega),x2.2 _ au,k1 _ (Dy ne)];exact ht
 refine dH (b:=tb) (cs':=[pv']) (ar h7) (by refine ap ?_;rcases gA with⟨rfl,_⟩ | ⟨b,rfl,_⟩<;>rfl) ht3 rfl rfl ?_;intro X4 x4 m4 g4;refine ap ?_;have kl4:X4.h.get l=some (.loop .busy pend fr [13] asC bdC):=by
  rw[x4.2 _ au ne,rA _ au (fun e=>by have:=(hb e).1;omega),x2.2 _ au];exact kl
 refine⟨pend,fr,[13],asC,_,kl4,?_⟩;refine .inl ⟨au,fun c hc h1 h2=>?_,by rw[dq,if_pos rfl],pv',?_,?_⟩
 ·rw[dq,if_neg h1,x4.2 _ au h2,rA _ au (fun e=>by have:=(hb e).1;omega),x2.2 _ au,k1 _ h1]
 ·rw[dq,if_neg (Dy ne)];exact g4
 ·have e0:bE (p++ [i])=bE p++ [.int .i64 i]:=by simp [bE]
  have e1:(p++ [i]).length=p.length+1:=by simp
  rw[e0,e1];have hbA:∀c,bP pv'=some c->c=X2.nx:=fun c hc=>by rw[bA] at hc;exact(Cd hc).symm
  refine lN.move (S:=X3) (by exact gA) (by show X3.nx<=X4.nx;omega) fun c hc=>?_;have:=hbA c hc;simp only;rw[dq,if_neg au,x4.2 _ au au]
def eM(D:Dec)(x:dI):Dec:=if x.kind=1 then aSP else D
def iE(g:bD)(D:Dec):Nat->Nat->Nat->bm
 | 0,_,_=>[]
 | f+1,i,s=>if(cj g i).kind=3 then [(i:Int)] else(i:Int)::iE g D f ((cj g i).next.getD ((eM D (cj g i)).chs (cj g i) (s % (eM D (cj g i)).rad (cj g i))) 0).toNat (s / (eM D (cj g i)).rad (cj g i))
def ItI(S0 X0:St)(l tb b3 b4 b5:Nat)(g:bD)(D:Dec)(tot:bm)(k:Nat)(A:bN)(X:St):Prop:=A.inr=false/\X0.nx<=X.nx/\(∀c,c<X0.nx->c≠l->c≠tb->X.h.get c=X0.h.get c)/\∃ (i s:Nat) (p:bm) (pv:AV) (pend:Option Out) (fr:Fr),i<g.bw.length/\g.bw.length<=k+i/\s<=9223372036854775807/\tot=p++iE g D k i s/\p.length<=i/\X.h.get l=some (.loop .ready pend fr [13] asC bdC)/\aB 7 fr= .ptr tb 0/\X.h.get tb=some (.cells [pv] false 0)/\lN 1 X0 X pv p.length (bE p)/\aB 0 A.F= .yld l/\aB 2 A.F= .ptr b3 0/\aB 3 A.F= .ptr b4 0/\aB 5 A.F= .int .i64 (s:Int)/\aB 6 A.F= .int .i64 (i:Int)
theorem aPg{F:Fr}{h:Ev.T AB}{nm:String}{tbl:List (Nat×Nat×Option (Bool×Nat))}{x:cP}:iT (.mkMeth nm tbl x) F h=some (.mth nm tbl (x.val F)):=rfl
theorem aH1{nm:String}{tbl:List (Nat×Nat×Option (Bool×Nat))}{x:cP}:dK (.mkMeth nm tbl x)=false:=rfl
theorem aHQ{nm:String}{tbl:List (Nat×Nat×Option (Bool×Nat))}{t f:Nat}{v:AV}(hf:pS t tbl=some (f,none)):sP (.mth nm tbl (.iface t v))=some (.mth nm tbl (.iface t v)):=by
 show aU (pS t tbl) _=_;rw[hf];rfl
theorem aL4{S0 X0:St}{l tb b3 b4 b5 s0:Nat}{nv iv:AV}{g:bD}{D:Dec}{pend:Option Out}{fr:Fr}(H:Has fns)(G:fH g)(hn:bH 6 dC S0 nv g.bw)(hD:∀i,i<g.bw.length->(cj g i).kind=2->aG9 fns S0 D (cj g i))(hS:Same S0 X0)(hs0:s0<=9223372036854775807)
  (l0:S0.nx<=l) (t0:S0.nx<=tb) (ll:l<X0.nx) (lt:tb<X0.nx) (lb3:b3<X0.nx) (lb4:b4<X0.nx) (lb5:b5<X0.nx) (ne:l≠tb) (nb3:b3≠l/\b3≠tb) (nb4:b4≠l/\b4≠tb) (nb5:b5≠l/\b5≠tb)
  (g3:X0.h.get b3=some (.cells [.int .i64 g.b9,nv,iv] false 0)) (g4:X0.h.get b4=some (.cells [.iface D.ty D.val] false 0)) (g5:X0.h.get b5=some (.cells [.int .i64 (s0:Int)] false 0)) (gl:X0.h.get l=some (.loop .ready pend fr [13] asC bdC)) (h7:aB 7 fr= .ptr tb 0) (gt:X0.h.get tb=some (.cells [.ce] false 0)):
  eT fns (.fn 90 [] [.ptr b5 0,.ptr b3 0,.ptr b4 0]) [.yld l] X0 fun _ X=>X0.nx<=X.nx/\(∀c,c<X0.nx->c≠l->c≠tb->X.h.get c=X0.h.get c)/\(∃pend fr,X.h.get l=some (.loop .ready pend fr [13] asC bdC)/\aLR pend=some .skip)/\∃pv,X.h.get tb=some (.cells [pv] false 0)/\lN 1 X0 X pv (iE g D g.bw.length 0 s0).length (bE (iE g D g.bw.length 0 s0)):=by
 have hN:=G.good.n2;have ld5:=eE (p:=0) g5 rfl;refine bL H.f90 (by simp) ?_;refine ae ?_;refine bK (cp ld5 ?_);refine bG (Q:=fun o A' X=>o= .ret/\X0.nx<=X.nx/\(∀c,c<X0.nx->c≠l->c≠tb->X.h.get c=X0.h.get c)/\(∃pend fr,X.h.get l=some (.loop .ready pend fr [13] asC bdC)/\aLR pend=some .skip)/\∃pv,X.h.get tb=some (.cells [pv] false 0)/\lN 1 X0 X pv (iE g D g.bw.length 0 s0).length (bE (iE g D g.bw.length 0 s0))) (aQ (bX (ItI S0 X0 l tb b3 b4 b5 g D (iE g D g.bw.length 0 s0)) ?_ g.bw.length _ _ ⟨rfl,Af _,fun _ _ _ _=>rfl,0,s0,[],.ce,pend,fr,G.good.n1,au,hs0,rfl,Af _,gl,h7,gt,.inl ⟨rfl,rfl,rfl⟩,by refine⟨?_,?_,?_,?_,?_⟩<;>simp only[↓sU,sD,rE,↓reduceIte,rA]⟩)) ?_;rotate_left
 ·rintro o ⟨F,inr⟩ X ⟨rfl,h⟩;refine ae ?_;exact h
 rintro k ⟨F,inr⟩ X ⟨q0,hX,hR,i,s,p,pv,pend,fr,hlt,hNk,hs,htot,hpl,hgl,h7,hgt,hgv,p0,p2,p3,p5,p6⟩;simp only at q0 p0 p2 p3 p5 p6;subst q0;refine fA (c9 p0 p6 ?_);refine aL (ae ?_);refine aF (aKc hgl h7 hgt hgv hX ll lt ne au) ?_;rintro _ Y ⟨rfl,hY,hRY,hgl2,pv',hgt2,hgv2⟩;clear hgl hgt hgv;have hRX:∀c,c<X0.nx->c≠l->c≠tb->Y.h.get c=X0.h.get c:=fun c hc h1 h2=>(hRY c hc h1 h2).trans (hR c hc h1 h2);have nY:X0.nx<=Y.nx:=Bb hX hY;have sY:Same S0 Y:=⟨Bb hS.1 nY,fun c hc=>by rw[hRX c (Ag hc hS.1) au au];exact hS.2 c hc⟩;have g3Y:=(hRX b3 lb3 nb3.1 nb3.2).trans g3;have g4Y:=(hRX b4 lb4 nb4.1 nb4.2).trans g4;refine aP (af) (aJ ?_);try refine ae ?_
 obtain⟨_,bx,qx,hiax,hbx,_,⟨xa,xw,xp,rfl,hxa,hxw,hxp⟩,hldx,_⟩:=bH.at hn ay (iK hlt);rw[<-aAs sY hbx] at hldx;refine aQ (aE (aM ?_));refine eh p2 p6 @aD @aC (mO g3Y) @aW hiax hldx ?_;refine cM ?_;intro Y1 y1 k1 h1;refine dH (b:=Y.nx) (aq) (by refine ap ?_;exact aS _) h1 rfl rfl ?_;intro Y2 y2 k2 h2;refine ap ?_;have sYY:Same Y Y2:=y2.same y1 (Af _);have keep:∀ {Z},Same Y Z->X0.nx<=Z.nx/\(∀c,c<X0.nx->c≠l->c≠tb->Z.h.get c=X0.h.get c)/\Z.h.get l=some (.loop .ready none fr [13] asC bdC)/\Z.h.get tb=some (.cells [pv'] false 0)/\lN 1 X0 Z pv' (p++ [(i:Int)]).length (bE (p++ [(i:Int)])):=fun {Z} hZ=>
  ⟨Bb nY hZ.1,fun c hc e1 e2=>(hZ.2 c au).trans (hRX c hc e1 e2),(hZ.2 l au).trans hgl2,(hZ.2 tb au).trans hgt2,hgv2.step hZ⟩
 obtain⟨k,rfl⟩:∃k',k=k'+1:=⟨k - 1,au⟩;simp only[iE] at htot;refine fA (dh @aD @aC (mN h2) ?_);by_cases hk3:(cj g i).kind=3
 ·rw[if_pos hk3] at htot;refine aP (by simp only[↓sU,sD,rE,↓reduceIte,rA,Ac hk3]) (aK ?_);have⟨e1,e2,e3,e4,e5⟩:=keep sYY;rw[<-htot] at e5;exact⟨rfl,e1,e2,⟨none,fr,e3,rfl⟩,pv',e4,e5⟩
 rw[if_neg hk3] at htot;refine aO (by simp only[↓sU,sD,rE,↓reduceIte,rA,Aa hk3]) (aJ ?_);try refine ae ?_
 have hDA:aG9 fns S0 (eM D (cj g i)) (cj g i):=by
  unfold eM;split
  ·rename_i h;exact aM4 H G hlt h
  ·rename_i h;rcases G.knd i hlt with h4 | h4 | h4
   ·exact absurd h4 h
   ·exact hD i hlt h4
   ·exact absurd h4 hk3
 have sY2:=sY.trans sYY;have ldN2:=ldN h2;have g4Y2:=(sYY.2 _ au).trans g4Y;have ld4:=eE (p:=0) g4Y2 rfl;refine bK (dh p3 ldN2 ld4 ?_);refine aL (ae ?_);refine aF (aQc (x:=cj g i) H ⟨xa,xw,xp,rfl,hxa.same sY2,hxw.same sY2,hxp.same sY2⟩) ?_;rintro _ Y3 ⟨rfl,y3⟩;have edc:(if(cj g i).kind=1 then .iface 102 (.agg []) else .iface D.ty D.val:AV)= .iface (eM D (cj g i)).ty (eM D (cj g i)).val:=by
  unfold eM;split<;>rfl
 rw[edc];generalize hDD:eM D (cj g i)=E at *;try refine ae ?_
 have s3:=sYY.trans y3;have h3:=(y3.2 _ au).trans h2;have ldN3:=ldN h3;have⟨fr',hfr,hrad⟩:=hDA.r;have⟨fc',hfc,hchs⟩:=hDA.c;refine bK (dz ldN3 ?_);refine aPy (t:=E.ty) (f:=fr') (v:=E.val) (aq) hfr ?_;refine ae ?_;refine aF (hrad Y3 _ (sY.trans s3) ⟨xa,xw,xp,rfl,hxa.same (sY.trans s3),hxw.same (sY.trans s3),hxp.same (sY.trans s3)⟩) ?_;rintro _ Y4 ⟨rfl,y4⟩;try refine ae ?_
 have s4:=s3.trans y4;have h4:=(y4.2 _ (aw y3.1)).trans h3;have ldN4:=ldN h4;have hpos:=hDA.pos;have hle:=hDA.le;have hrem:=sN (.p .int) .i64 (t:=s) (d:=E.rad (cj g i)) hpos;have hml:s % E.rad (cj g i)<E.rad (cj g i):=Dj _ hpos;have hcl:=hDA.lt _ hml;have hself:=hDA.self;have sx:=aA4 (k:=.i64) (x0:=(cj g i).kind) (x1:=(cj g i).player) (x2:=(cj g i).info) (cH.self hxa) (cH.self hxw) (cH.self hxp);have sxa:=cH.self hxa;have lb7:Y.nx<Y4.nx:=by have:=y3.1;have:=y4.1;omega
 refine aE (fJ (fun _=>False) ?_);intro Y5 y5;unfold aSO at hfc;have nm:=aHQ (nm:= "parlour/deal.choose") (v:=E.val) hfc;have sZ5:=(sY.trans s4).trans y5;simp only[↓sU,sD,rE,↓reduceIte,rA,p5,aD,aX,aC,jU h4,ldN4,lb7,Am,sxa,sx,hrem,aPg,aH1,aY,bT,nm];refine aO7 (t:=E.ty) (f:=fc') (u:=E.val) rfl (af) hfc ?_;refine ae ?_;refine aF (hchs Y5 _ (s % E.rad (cj g i)) sZ5 ⟨xa,xw,xp,rfl,hxa.same sZ5,hxw.same sZ5,hxp.same sZ5⟩ hml) ?_;rintro _ Y6 ⟨rfl,y6⟩;refine⟨y6,?_⟩;have s6:=(s4.trans y5).trans y6;have hxa4:=hxa.same (sY.trans s4);have ia:=hxa4.cq hcl;have la:=hxa4.ld hcl;have⟨b1,o1,hp1,lb1⟩:=cH.place hxa4 hcl;rw[hp1] at ia la;have⟨hr1,hr2⟩:=G.good.kids i hlt _ hcl;have hnc:=aW;refine du @aW ia la lb1 @Am ?_;have hq:=mB (.p .int) (a:=((s:Nat):Int)) (b:=((E.rad (cj g i):Nat):Int)) au au au;have hq':((s:Nat):Int) / ((E.rad (cj g i):Nat):Int)=((s / E.rad (cj g i):Nat):Int):=rfl;rw[hq'] at hq;have hdl:s / E.rad (cj g i)<=s:=Di ..;refine aM (c9 p5 hq ?_);have⟨e1,e2,e3,e4,e5⟩:=keep s6;generalize hcc:(cj g i).next.getD (E.chs (cj g i) (s % E.rad (cj g i))) 0=c at *;have ec:(c.toNat:Int)=c:=Bu au;refine⟨k,au,rfl,e1,e2,c.toNat,s / E.rad (cj g i),p++ [(i:Int)],pv',none,fr,au,au,au,by rw[htot,Be];rfl,by rw[Aj,Bc];omega,e3,h7,e4,e5,by refine⟨?_,?_,?_,?_,?_⟩<;>simp only[↓sU,sD,rE,↓reduceIte,rA,p0,p2,p3,ec]⟩
theorem aIV{S:St}{nv iv:AV}{g:bD}{t s:Nat}{v:AV}(H:Has fns):eT fns (.fn 67 [] []) [.agg [.int .i64 g.b9,nv,iv],.iface t v,.int .i64 (s:Int)] S fun r X=>Same S X/\∃b3 b4 b5,r= .fn 90 [] [.ptr b5 0,.ptr b3 0,.ptr b4 0]/\S.nx<=b3/\S.nx<=b4/\S.nx<=b5/\b3<X.nx/\b4<X.nx/\b5<X.nx/\X.h.get b3=some (.cells [.int .i64 g.b9,nv,iv] false 0)/\X.h.get b4=some (.cells [.iface t v] false 0)/\X.h.get b5=some (.cells [.int .i64 (s:Int)] false 0):=by
 refine bL H.f67 (by simp) ?_;refine ae ?_;refine bK ?_;refine cD (cs:=[.int .i64 g.b9,nv,iv]) rfl ?_;intro S1 s1 n1 g1;refine cD (cs:=[.iface t v]) rfl ?_;intro S2 s2 n2 g2;refine cD (cs:=[.int .i64 (s:Int)]) rfl ?_;intro S3 s3 n3 g3;refine ap ?_;refine bK (dz @uF ?_);refine aK (ap ?_);exact⟨(s1.trans s2).trans s3,S.nx,S1.nx,S2.nx,rfl,au,au,au,au,au,au,by rw[s3.2 _ au,s2.2 _ au];exact g1,by rw[s3.2 _ au];exact g2,g3⟩
theorem wU{S:St}{nv iv:AV}{g:bD}{D:Dec}{s:Nat}(H:Has fns)(G:fH g)(hn:bH 6 dC S nv g.bw)(hD:∀i,i<g.bw.length->(cj g i).kind=2->aG9 fns S D (cj g i))(hs:s<=9223372036854775807):
  eT fns (.fn 40 [] []) [.agg [.int .i64 g.b9,nv,iv],.iface D.ty D.val,.int .i64 (s:Int)] S fun r X=>Same S X/\cH .i64 X r (iE g D g.bw.length 0 s)/\∀c,bP r=some c->S.nx<=c:=by
 refine bL H.f40 (by simp) ?_;refine ae ?_;refine bK ?_;refine cD (cs:=[.int .i64 g.b9,nv,iv]) rfl ?_;intro S1 s1 n1 g1;refine ap ?_;refine bK ?_;refine cM ?_;intro S2 s2 n2 g2;refine ap ?_;have g1':=(s2.2 _ au).trans g1;refine aE (bG (Q:=fun o A' X=>o= .normal/\A'.inr=false/\Same S X/\aB 7 A'.F= .ptr S1.nx 0/\∃pv,X.h.get S1.nx=some (.cells [pv] false 0)/\cH .i64 X pv (iE g D g.bw.length 0 s)/\∀c,bP pv=some c->S.nx<=c) (aE (aM ?_)) ?_)
 ·refine dz (jT g1') ?_;refine aL (ap ?_);refine aF (aIV (g:=g) (s:=s) H) ?_;rintro _ Y ⟨hY,b3,b4,b5,rfl,l3,l4,l5,k3,k4,k5,h3,h4,h5⟩;try refine ap ?_
  have gt:=(hY.2 _ (show S1.nx<S2.nx by omega)).trans g2;have sY:=(s1.trans s2).trans hY;have nY:=hY.1;refine aQ (aQx rfl (by simp only[↓stU,aG,rE,↓reduceIte,rA];rfl) ?_);refine aF (aL4 (S0:=S) (X0:=⟨Y.h.set Y.nx (some (.loop .ready none _ [13] asC bdC)),Y.nx+1⟩) (l:=Y.nx) (tb:=S1.nx) (b3:=b3) (b4:=b4) (b5:=b5) (s0:=s) (g:=g) (D:=D) H G hn hD ⟨by have:=sY.1;show S.nx<=Y.nx+1;omega,fun c hc=>by simp only;rw[dq,if_neg (aw sY.1)];exact sY.2 c hc⟩ hs (aw sY.1) au (by show Y.nx<Y.nx+1;omega) (by show S1.nx<Y.nx+1;omega) (by show b3<Y.nx+1;omega) (by show b4<Y.nx+1;omega) (by show b5<Y.nx+1;omega) au au au au  (by simp only;rw[dq,if_neg au];exact h3) (by simp only;rw[dq,if_neg au];exact h4) (by simp only;rw[dq,if_neg au];exact h5) fh (aq) (by simp only;rw[dq,if_neg au];exact gt)) ?_;rintro _ X ⟨nX,hR,⟨pend,fr,hl,hc⟩,pv,ht,hg⟩;have nX:Y.nx+1<=X.nx:=nX;refine⟨.ready,pend,fr,[13],asC,bdC,.skip,hl,(by intro h;cases h),hc,aJ ?_⟩;have hoff:bP pv≠some Y.nx:=fun e=>by
   have:=(hg.blk e).1;have:Y.nx+1<=Y.nx:=this;omega
  refine ap ?_;refine⟨⟨by have:=sY.1;show S.nx<=X.nx;omega,fun c hc=>?_⟩,pv,?_,?_,fun c hc=>by have h1:=(hg.blk hc).1;have h2:Y.nx+1<=c:=h1;have:=sY.1;omega⟩
  ·try simp only
   have h1:c<Y.nx+1:=by have:=sY.1;omega
   have h2:=hR c h1 (aw sY.1) au;try simp only at h2
   rw[dq,if_neg (aw sY.1),h2,dq,if_neg (aw sY.1)];exact sY.2 c hc
  ·try simp only
   rw[dq,if_neg au];exact ht
  ·refine lN.is (S0:=⟨Y.h.set Y.nx none,Y.nx+1⟩) (lN.move (S:=X) (by exact hg) (Af _) fun c hc=>?_);simp only;rw[dq,if_neg (fun e=>hoff (by rw[hc,e]))]
 rintro o ⟨F,inr⟩ X ⟨rfl,q0,hX,p7,pv,ht,hl,hfr⟩;simp only at q0 p7;subst q0;have ld:=eE (p:=0) ht rfl;try refine ae ?_
 refine bK (c9 p7 @ld ?_);refine aK (ae ?_);exact⟨hX,hl,hfr⟩
theorem aEW{S:St}{nv iv:AV}{g:bD}{D:Dec}{s:Nat}(H:Has fns)(G:fH g)(hn:bH 6 dC S nv g.bw)(hD:∀i,i<g.bw.length->(cj g i).kind=2->aG9 fns S D (cj g i))(hs:s<=9223372036854775807):
  eT fns (.fn 40 [] []) [.agg [.int .i64 g.b9,nv,iv],.iface D.ty D.val,.int .i64 (s:Int)] S fun r X=>Same S X/\cH .i64 X r (iE g D g.bw.length 0 s):=
 aF (wU H G hn hD hs) fun _ _ h=>⟨h.1,h.2.1⟩
def wN(g:bD)(i:Nat):Nat:=if(cj g i).kind=1 then(cj g i).weights.sum.toNat else 1
structure nC(g:bD)(pr:Nat->Nat):Prop where
 zero:pr 0=1
 kid:∀i,i<g.bw.length->∀k,k<(cj g i).next.length->pr ((cj g i).next.getD k 0).toNat=pr i * wN g i
theorem gB{g:bD}(G:jI g){j:Nat}(h0:0<j)(hj:j<g.bw.length):∃q k,q<j/\k<(cj g q).next.length/\(cj g q).next.getD k 0=(j:Int):=by
 have⟨T,_,hTl,hW⟩:=G.walk;have⟨q,h1,_,h3⟩:=hW.pf j h0 au;rw[Ao,Ao,kR] at h3;have⟨k,hk,he⟩:=List.mem_iff_getElem.1 h3;exact⟨q,k,h1,hk,by rw[Ae,Ad hk];exact he⟩
def aO1(g:bD)(pr:Nat->Nat)(o:Option Nat)(i:Nat):Option Nat:=o.bind fun z=>if(cj g i).kind=3 then zJ z (pr i) else if(cj g i).kind=1/\1000000000000000<pr i * wN g i then none else some z
def szF(g:bD)(pr:Nat->Nat)(n:Nat):Option Nat:=(List.range n).foldl (aO1 g pr) (some 1)
section
variable {g:bD}{pr:Nat->Nat}
theorem xE(n:Nat):szF g pr (n+1)=aO1 g pr (szF g pr n) n:=by unfold szF;rw[List.range_succ,List.foldl_append];rfl
theorem aEr{n:Nat}(h:szF g pr n=none):∀ {m:Nat},n<=m->szF g pr m=none
 | 0,hm=>by
  obtain rfl:n=0:=by omega
  exact h
 | m+1,hm=>by
  by_cases e:n=m+1
  ·rw[<-e];exact h
  ·rw[xE,aEr h (m:=m) au];rfl
theorem aFR{z p y:Nat}(h:zJ z p=some y)(hz:0<z)(hp:0<p):0<y/\y<=1000000000000000:=by
 unfold zJ at h;split at h
 ·cases h
 ·cases h;have h1:0<z / Nat.gcd z p:=Hd (Gt _ hz) (Dx _ hz);exact⟨Ew h1 hp,au⟩
theorem uP(G:fH g){i:Nat}(hi:i<g.bw.length):0<wN g i:=by
 unfold wN;split
 ·rename_i h;have:=(G.small hi h).2;omega
 ·exact Nat.one_pos
theorem nC.pos(P:nC g pr)(G:fH g):∀ {j:Nat},j<g.bw.length->0<pr j:=by
 intro j
 induction j using Nat.strongRecOn with
 | ind j ih=>
  intro hj;rcases An j with h0 | h0
  ·subst h0;rw[P.zero];exact Nat.one_pos
  ·have⟨q,k,hq,hk,he⟩:=gB G.good h0 hj;have:=P.kid q au k hk;rw[he,Bd] at this;rw[this];exact Ew (ih q hq au) (uP G au)
theorem aDI(P:nC g pr)(G:fH g):∀ {n z:Nat},n<=g.bw.length->szF g pr n=some z->0<z/\z<=1000000000000000/\(∀j,j<n->(cj g j).kind=1->pr j * wN g j<=1000000000000000)
 | 0,z,_,h=>by
  have:some 1=some z:=h;cases this;exact⟨au,au,fun j hj=>au⟩
 | n+1,z,hn,h=>by
  rw[xE] at h;cases h1:szF g pr n with
  | none=>rw[h1] at h;cases h
  | some y=>
   have⟨a,b,c⟩:=aDI P G (n:=n) au h1;rw[h1] at h;have h:(if(cj g n).kind=3 then zJ y (pr n) else if(cj g n).kind=1/\1000000000000000<pr n * wN g n then none else some y)=some z:=h;split at h
   ·rename_i h3;have⟨d,e⟩:=aFR h a (P.pos G au);refine⟨d,e,fun j hj hk=>?_⟩;by_cases hjn:j=n
    ·subst hjn;omega
    ·exact c j au hk
   ·split at h
    ·cases h
    ·rename_i h3 h4;cases h;refine⟨a,b,fun j hj hk=>?_⟩;by_cases hjn:j=n
     ·subst hjn;rcases Bj 1000000000000000 (pr j * wN g j) with h5 | h5
      ·exact absurd ⟨hk,h5⟩ h4
      ·exact h5
     ·exact c j au hk
theorem nC.le(P:nC g pr)(G:fH g){n:Nat}(hc:∀j,j<n->(cj g j).kind=1->pr j * wN g j<=1000000000000000):∀ {j:Nat},j<=n->j<g.bw.length->pr j<=1000000000000000:=by
 intro j
 induction j using Nat.strongRecOn with
 | ind j ih=>
  intro hjn hj;rcases An j with h0 | h0
  ·subst h0;rw[P.zero];omega
  ·have⟨q,k,hq,hk,he⟩:=gB G.good h0 hj;have:=P.kid q au k hk;rw[he,Bd] at this;rw[this];by_cases h1:(cj g q).kind=1
   ·exact hc q au h1
   ·have hw:wN g q=1:=by unfold wN;rw[if_neg h1]
    rw[hw,Bt];exact ih q hq au au
end
def aAW(g:bD)(pr:Nat->Nat):Int:=match szF g pr g.bw.length with | none=>0 | some z=>(z:Int)
def aCi(g:bD)(pr:Nat->Nat):Int:=match szF g pr g.bw.length with | none=>5 | some _=>0
def JnI(S:St)(g:Nat)(sb p:Nat)(k:Nat)(A:bN)(S':St):Prop:=
 A.inr=false/\Same S S'/\∃a b:Nat,aB 0 A.F= .ptr sb 0/\aB 1 A.F= .int .i64 (p:Int)/\aB 4 A.F= .int .i64 (a:Int)/\aB 5 A.F= .int .i64 (b:Int)/\a<=9223372036854775807/\b<=9223372036854775807/\Nat.gcd a b=g/\k=b
theorem aNp{z p:Nat}(hz:0<z):z * (p / Nat.gcd z p)=z / Nat.gcd z p * p:=by
 have hg:0<Nat.gcd z p:=Dx _ hz;have⟨a,ha⟩:=Cw z p;have⟨b,hb⟩:=Eg z p;generalize Nat.gcd z p=q at *;subst ha;subst hb;rw[Eh _ hg,Eh _ hg,Bi q a,Bl]
def vT(X:St)(sb:Nat)(ps:Int)(nv iv:AV)(z:Nat)(b:Bool):Prop:=X.h.get sb=some (.cells [.int .i64 ps,nv,iv,.int .i64 (z:Int),.bool b] false 0)
theorem aAr(b:Bool):(AV.bool b).cells=some [.bool b]:=rfl
theorem aJt{S:St}{sb z p:Nat}{ps:Int}{nv iv:AV}(H:Has fns)(hb:sb<S.nx)(hg:vT S sb ps nv iv z false)(hz:0<z)(hp:0<p)(hz2:z<=1000000000000000)(hp2:p<=1000000000000000):
  eT fns (.fn 72 [] []) [.ptr sb 0,.int .i64 (p:Int)] S fun _ X=>cB sb S X/\match zJ z p with | none=>vT X sb ps nv iv z true | some y=>vT X sb ps nv iv y false:=by
 unfold vT at hg ⊢;have l3:=ldc (j:=3) hg rfl;have l4:=ldc (j:=4) hg rfl;have hG:0<Nat.gcd z p:=Dx _ hz;refine bL H.f72 (by simp) ?_;refine ae ?_;refine bK (du @aY @bB @aD @aC l3 ?_);refine aE (bG (Q:=fun o A' X=>o= .normal/\A'.inr=false/\Same S X/\aB 0 A'.F= .ptr sb 0/\aB 1 A'.F= .int .i64 (p:Int)/\aB 4 A'.F= .int .i64 ((Nat.gcd z p:Nat):Int)) (aQ (bX (JnI S (Nat.gcd z p) sb p) ?_ p _ _ ⟨rfl,Same.refl _,z,p,af,af,af,af,au,au,rfl,rfl⟩)) ?_)
 ·rintro k ⟨F,inr⟩ X ⟨q0,hX,a,b,p0,p1,p4,p5,ha,hb,hgc,rfl⟩;simp only at q0 p0 p1 p4 p5;subst q0;refine fA (cp p5 ?_);rcases An k with h0 | hkp
  ·subst h0;refine aO (by simp only[↓sU,sD,rE,↓reduceIte,rA];rfl) (bS ?_);rw[Hf] at hgc;rw[<-hgc];refine dh p0 p1 p4 ?_;exact hX
  ·refine aP (by simp only[↓sU,sD,rE,↓reduceIte,rA,Ac (show(k:Int)≠0 by omega)]) (aJ ?_);try refine ae ?_
   have hrem:=sN (.p .int) .i64 (t:=a) (d:=k) hkp;refine aQ (jK ?_);refine dh p4 p5 hrem ?_;refine⟨a % k,Dj _ hkp,rfl,hX.trans (Same.nx _ _),k,a % k,ah p0,ah p1,af,af,hb,by have:=Dj a hkp;omega,?_,rfl⟩;rw[<-hgc,Eb a k,Nat.gcd_rec k a,Eb]
 rintro o ⟨F,inr⟩ X ⟨rfl,q0,hX,p0,p1,p4⟩;simp only at q0 p0 p1 p4;subst q0;have hsw:=aNp (p:=p) hz;have hgp:=Hd (Nat.gcd_le_right z hp) hG;have hfle:p / Nat.gcd z p<=p:=Di ..;have hq1:=mB (.p .int) (a:=((p:Nat):Int)) (b:=((Nat.gcd z p:Nat):Int)) au au au;have hq1':((p:Nat):Int) / ((Nat.gcd z p:Nat):Int)=((p / Nat.gcd z p:Nat):Int):=rfl;rw[hq1'] at hq1;try refine ae ?_
 refine bK ?_;simp only[↓sU,sD,rE,↓reduceIte,rA,p1,p4,hq1];unfold zJ;rw[<-hsw];generalize p / Nat.gcd z p=f at *;have hq2:=mB (.p .int) (a:=1000000000000000) (b:=((f:Nat):Int)) ay ay au;have hq2':(1000000000000000:Int) / ((f:Nat):Int)=((1000000000000000 / f:Nat):Int):=rfl;rw[hq2'] at hq2;have hgX:=(hX.2 _ hb).trans hg;have l3X:=ldc (j:=3) hgX rfl;refine aE (aE (jK ?_));simp only[↓sU,sD,rE,↓reduceIte,rA,p0,aY,bT,bB,aD,aX,aC,l3X,hq2];by_cases h:1000000000000000<z * f
 ·have h2:=(aGe (x:=z) hgp).2 h;rw[if_pos h];refine aP (by simp only[↓sU,sD,rE,↓reduceIte,rA,Ac (show((z:Nat):Int)>((1000000000000000 / f:Nat):Int) by omega)]) ?_;refine bK (du p0 @aY @bB @aD @aC ?_);refine fK (fun call=>by refine c9 @dW @aAr ?_;exact stc (S:=⟨X.h,X.nx+7⟩) hgX (by simp)) ?_;refine ae ?_;refine aK (ae ?_);refine⟨⟨by have:=hX.1;show S.nx<=X.nx+7;omega,fun c hc hne=>?_⟩,?_⟩
  ·try simp only
   rw[dq,if_neg hne];exact hX.2 c hc
  ·try simp only
   rw[dq,if_pos rfl];rfl
 ·have h2:¬1000000000000000 / f<z:=fun h3=>h ((aGe hgp).1 h3);rw[if_neg h];refine aO (by simp only[↓sU,sD,rE,↓reduceIte,rA,Aa (show ¬ ((z:Nat):Int)>((1000000000000000 / f:Nat):Int) by omega)]) (aJ ?_);try refine ae ?_
  have w1:IntKind.i64.wrap (((z:Nat):Int) * ((f:Nat):Int))=((z * f:Nat):Int):=by rw[<-Bk];exact wrap_i64 au au
  refine aM (dx p0 @aY @bB @aD @aC l3X w1 ?_);refine fK (fun call=>by refine c9 @dW @cN ?_;exact stc (S:=⟨X.h,X.nx+7⟩) hgX (by simp)) ?_;refine ae ?_;refine⟨_,rfl,⟨by have:=hX.1;show S.nx<=X.nx+7;omega,fun c hc hne=>?_⟩,?_⟩
  ·try simp only
   rw[dq,if_neg hne];exact hX.2 c hc
  ·try simp only
   rw[dq,if_pos rfl];rfl
def aM6(X:St)(sb:Nat)(ps:Int)(nv iv:AV)(g:bD)(pr:Nat->Nat)(n:Nat):Prop:=(∃z,vT X sb ps nv iv z true/\szF g pr n=none)\/(∃z,vT X sb ps nv iv z false/\szF g pr n=some z)
def aS5(S:St)(sb:Nat)(nv iv xa:AV)(g:bD)(pr:Nat->Nat)(i e w:Nat)(rec:Nat->Option (List dP))(k:Nat)(A:bN)(X:St):Prop:=A.inr=false/\cB sb S X/\∃ (j r:Nat) (Tr:List dP),j+k=(cj g i).next.length/\gS rec ((cj g i).next.drop j) r=some Tr/\r+Tr.length=e/\aM6 X sb g.b9 nv iv g pr r/\aB 0 A.F= .ptr sb 0/\aB 2 A.F= .int .i64 (w:Int)/\aB 41 A.F=xa/\aB 42 A.F= .int .i64 (((cj g i).next.length:Nat):Int)/\aB 43 A.F= .int .i64 (j:Int)
theorem aIY{S0:St}{sb:Nat}{nv iv:AV}{g:bD}{pr:Nat->Nat}(H:Has fns)(G:fH g)(P:nC g pr)(hn:bH 6 dC S0 nv g.bw)(hsb:S0.nx<=sb):
  ∀ (f:Nat) {S:St} {i:Nat} {p d:Int} {T':List dP} {z:Nat},iL g.bw.length (iB g) f i p d=some T'->Same S0 S->sb<S.nx->vT S sb g.b9 nv iv z false->szF g pr i=some z->
  eT fns (.fn 48 [] []) [.ptr sb 0,.int .i64 (i:Int),.int .i64 ((pr i:Nat):Int)] S fun _ X=>cB sb S X/\aM6 X sb g.b9 nv iv g pr (i+T'.length):=by
 have hN:=G.good.n2;intro f
 induction f with
 | zero=>intro S i p d T' z hT';cases hT'
 | succ f ih=>
  intro S i p d T' z hT' hS hb hsc hz;simp only[iL] at hT';split at hT';rotate_left
  ·cases hT'
  rename_i hlt;obtain⟨L',hkids,rfl⟩:=Ax.1 hT';rw[kR] at hkids;have⟨hz0,hz1,hzc⟩:=aDI P G au hz;have hp1:=P.pos G hlt;have hp2:=P.le G hzc (Af i) hlt;have hg:S.h.get sb=_:=hsc;have l1:=ldc (j:=1) hg rfl;obtain⟨_,bx,qx,hiax,hbx,_,⟨xa,xw,xp,rfl,hxa,hxw,hxp⟩,hldx,_⟩:=bH.at hn ay (iK hlt);rw[<-aAs hS hbx] at hldx;refine bL H.f48 (by simp) ?_;refine ae ?_;refine bK (eh @aY @bB @aD @aC l1 @aW hiax hldx ?_);refine cM ?_;intro Y1 y1 k1 h1;refine dH (b:=S.nx) (aq) (by refine ap ?_;exact aS _) h1 rfl rfl ?_;intro Y y2 k2 h2;refine ap ?_;have sY:Same S Y:=y2.same y1 (Af _);have s0Y:=hS.trans sY;have gY:=(sY.2 _ hb).trans hg;have lbY:S.nx<Y.nx:=by omega
  refine aE (bG (Q:=fun o A' X=>(o= .normal/\A'.inr=false/\Same Y X/\(cj g i).kind≠3/\szF g pr (i+1)=some z/\pr i * wN g i<=1000000000000000/\aB 0 A'.F= .ptr sb 0/\aB 2 A'.F= .int .i64 ((pr i * wN g i:Nat):Int)/\aB 6 A'.F= .ptr S.nx 0)\/(o= .ret/\cB sb S X/\aM6 X sb g.b9 nv iv g pr (i+(L'.length+1)))) (aE (aM ?_)) ?_)
  ·refine dh @aD @aC (mN h2) ?_;refine aQ (aE (aM ?_));refine ae ?_;by_cases hk3:(cj g i).kind=3
   ·refine aP (by simp only[↓sU,sD,rE,↓reduceIte,rA,Ac hk3]) ?_;refine bK (ae ?_);refine aL (ae ?_);refine aF (aJt H (Ag hb sY.1) gY hz0 hp1 hz1 hp2) ?_;rintro _ X ⟨hX,hj⟩;try refine ae ?_
    refine aK ?_;rw[G.fin i hlt hk3] at hkids;simp only[gS,Al] at hkids;subst hkids;refine .inr ⟨rfl,⟨Bb sY.1 hX.1,fun c hc hne=>by rw[hX.2 _ (Ag hc sY.1) hne,sY.2 _ hc]⟩,?_⟩;have hst:szF g pr (i+1)=zJ z (pr i):=by
     rw[xE,hz];show(if(cj g i).kind=3 then _ else _)=_;rw[if_pos hk3]
    show aM6 X sb g.b9 nv iv g pr (i+1);cases hl:zJ z (pr i) with
    | none=>rw[hl] at hj hst;exact .inl ⟨z,hj,hst⟩
    | some y=>rw[hl] at hj hst;exact .inr ⟨y,hj,hst⟩
   refine aO (by simp only[↓sU,sD,rE,↓reduceIte,rA,Aa hk3]) ?_;refine bK (ae ?_);have hst:szF g pr (i+1)=if(cj g i).kind=1/\1000000000000000<pr i * wN g i then none else some z:=by
    rw[xE,hz];show(if(cj g i).kind=3 then _ else _)=_;rw[if_neg hk3]
   by_cases hk1:(cj g i).kind=1
   ·have⟨hsm,hs1⟩:=G.small hlt hk1;have hall:=hsm.all;have hw:wN g i=(cj g i).weights.sum.toNat:=by unfold wN;rw[if_pos hk1]
    have hwi:((wN g i:Nat):Int)=(cj g i).weights.sum:=by rw[hw];exact Bu au
    have hwp:0<wN g i:=by omega
    refine aP (by simp only[↓sU,sD,rE,↓reduceIte,rA,Ac hk1]) ?_;refine bK (dh @aD @aC (kE h2) ?_);refine aL (ae ?_);refine aF (aIN H (hxw.same s0Y) hsm) ?_;rintro _ X ⟨rfl,hX⟩;rw[<-hwi];generalize wN g i=w at *;have hq:=mB (.p .int) (a:=1000000000000000) (b:=((w:Nat):Int)) ay ay au;have hq':(1000000000000000:Int) / ((w:Nat):Int)=((1000000000000000 / w:Nat):Int):=rfl;rw[hq'] at hq;try refine ae ?_
    refine fA (cp hq ?_);by_cases h:1000000000000000<pr i * w
    ·have h3:=(aGe (x:=pr i) hwp).2 h;rw[if_pos ⟨hk1,h⟩] at hst;have gX:=(hX.2 _ (Ag hb sY.1)).trans gY;refine aP (by simp only[↓sU,sD,rE,↓reduceIte,rA,Ac (show((pr i:Nat):Int)>((1000000000000000 / w:Nat):Int) by omega)]) ?_;refine bK (di @aY @bB @aD @aC ?_);refine fK (fun call=>by refine c9 @dW @aAr ?_;exact stc (S:=X) gX (by simp)) ?_;refine ae ?_;refine aK ?_;refine .inr ⟨rfl,⟨Bb sY.1 hX.1,fun c hc hne=>?_⟩,.inl ⟨z,?_,aEr hst au⟩⟩
     ·simp only;rw[dq,if_neg hne,hX.2 _ (Ag hc sY.1),sY.2 _ hc]
     ·unfold vT;simp only;rw[dq,if_pos rfl];rfl
    ·have h3:¬1000000000000000 / w<pr i:=fun h4=>h ((aGe hwp).1 h4);rw[if_neg (fun h4=>h h4.2)] at hst;refine aO (by simp only[↓sU,sD,rE,↓reduceIte,rA,Aa (show ¬ ((pr i:Nat):Int)>((1000000000000000 / w:Nat):Int) by omega)]) (aJ ?_);try refine ae ?_
     have w1:IntKind.i64.wrap (((pr i:Nat):Int) * ((w:Nat):Int))=((pr i * w:Nat):Int):=by rw[<-Bk];exact wrap_i64 au au
     refine aM (cp w1 ?_);exact .inl ⟨hX,hk3,hst,au⟩
   ·have hw:wN g i=1:=by unfold wN;rw[if_neg hk1]
    rw[if_neg (fun h=>hk1 h.1)] at hst;refine aO (by simp only[↓sU,sD,rE,↓reduceIte,rA,Aa hk1]) (aJ ?_);rw[hw,Bt];refine ae ?_;exact .inl ⟨Same.refl _,hk3,hst,hp2⟩
  rintro o ⟨F,inr⟩ X (⟨rfl,q0,hX,hk3,hst,hple,p0,p2,p6⟩ | ⟨rfl,hb2,hv⟩);rotate_left
  ·refine ae ?_;exact⟨hb2,hv⟩
  simp only at q0 p0 p2 p6;subst q0;have sX:=s0Y.trans hX;have hXb:=(hX.2 _ lbY).trans h2;have hxaX:=hxa.same sX;have sSX:=sY.trans hX;have hscX:vT X sb g.b9 nv iv z false:=(sSX.2 _ hb).trans hsc;try refine ae ?_
  refine bK (dw p6 @aD @aC (jU hXb) hxaX.len @Ak ?_);refine bG (Q:=fun o A' Z=>(o= .normal/\aS5 S sb nv iv xa g pr i (i+(L'.length+1)) (pr i * wN g i) (fun r=>iL g.bw.length (iB g) f r i (d+1)) 0 A' Z)\/(o= .ret/\cB sb S Z/\aM6 Z sb g.b9 nv iv g pr (i+(L'.length+1)))) (aQ (bX (aS5 S sb nv iv xa g pr i (i+(L'.length+1)) (pr i * wN g i) (fun r=>iL g.bw.length (iB g) f r i (d+1))) ?_ (cj g i).next.length _ _ ⟨rfl,⟨sSX.1,fun c hc _=>sSX.2 c hc⟩,0,i+1,L',au,by rw[Dn];exact hkids,au,.inr ⟨z,hscX,hst⟩,by refine⟨?_,?_,?_,?_,?_⟩<;>simp only[↓sU,sD,rE,↓reduceIte,rA,p0,p2]⟩)) ?_
  ·clear p0 p2 p6 hkids;rintro k ⟨F,inr⟩ V ⟨q0,hV,j,r,Tr,hjk,hkd,hre,hvo,p0,p2,p41,p42,p43⟩;simp only at q0 p0 p2 p41 p42 p43;subst q0;have sV:Same S0 V:=hV.same hS hsb;have lsV:sb<V.nx:=Ag hb hV.1;refine bK (c9 p42 p43 ?_);by_cases hj:j<(cj g i).next.length;rotate_left
   ·refine aE (aO (by simp only[↓sU,sD,rE,↓reduceIte,rA,Aa (show ¬ (j:Int)<(((cj g i).next.length:Nat):Int) by omega)]) (bS ?_));refine ae ?_;have hk0:k=0:=by omega
    subst hk0;exact .inl ⟨rfl,hV,j,r,Tr,hjk,hkd,hre,hvo,by refine⟨?_,?_,?_,?_,?_⟩<;>simp only[↓sU,sD,rE,↓reduceIte,rA,p0,p2,p41,p42,p43]⟩
   refine aE (aP (by simp only[↓sU,sD,rE,↓reduceIte,rA,Ac (show(j:Int)<(((cj g i).next.length:Nat):Int) by omega)]) (aJ ?_));try refine ae ?_
   have hxaV:=hxa.same sV;have hiac:=hxaV.cq hj;have hlac:=hxaV.ld hj;have hdr:(cj g i).next.drop j=(cj g i).next[j]::(cj g i).next.drop (j+1):=Bw hj;have hgd:(cj g i).next.getD j 0=(cj g i).next[j]:=by rw[Ae,Ad hj];rfl
   rw[hdr,<-hgd] at hkd;have⟨hr1,hr2⟩:=G.good.kids i hlt j hj;have hpk:=P.kid i hlt j hj;simp only[gS] at hkd;split at hkd;rotate_left
   ·cases hkd
   rename_i hc;have⟨L1,hw1,hkd⟩:=Du.1 hkd;obtain⟨L2,hw2,rfl⟩:=Ax.1 hkd;rw[Aj] at hre;rw[hc] at hlac hpk;rw[Bd] at hpk;have w1:IntKind.i64.wrap ((j:Int)+1)=((j+1:Nat):Int):=by have:=G.good.nxt i hlt;rw[wrap_i64 au au];omega
   refine aE (aQ (aE (aM ?_)));refine du p41 p43 @aW hiac hlac ?_;rcases hvo with⟨z',hs',hn'⟩ | ⟨z',hs',hsome⟩
   ·have hs'':V.h.get sb=_:=hs';have l4:=ldc (j:=4) hs'' rfl;refine fA (dw p0 @aY @bB @aD @aC l4 ?_);refine aP (af) (aK ?_);exact .inr ⟨rfl,hV,.inl ⟨z',hs',aEr hn' au⟩⟩
   have hs'':V.h.get sb=_:=hs';have l4:=ldc (j:=4) hs'' rfl;refine fA (dw p0 @aY @bB @aD @aC l4 ?_);refine aO (af) (aJ ?_);try refine ae ?_
   refine aM (c9 p0 p2 ?_);refine aL (ae ?_);rw[<-hpk];refine aF (ih hw1 sV lsV hs' hsome) ?_;rintro _ Z ⟨hZ,hvo⟩;try refine ae ?_
   refine aM (c9 p43 w1 ?_);exact⟨k - 1,au,rfl,hV.trans hZ,j+1,r+L1.length,L2,au,hw2,au,hvo,by refine⟨?_,?_,?_,?_,?_⟩<;>simp only[↓sU,sD,rE,↓reduceIte,rA,p0,p2,hpk,p41,p42]⟩
  clear p0 p2 p6;rintro o ⟨F,inr⟩ V (⟨rfl,q0,hV,j,r,Tr,hjk,hkd,hre,hvo,_⟩ | ⟨rfl,h⟩);rotate_left
  ·refine ae ?_;exact h
  rw[Dp au] at hkd;simp only[gS,Al] at hkd;subst hkd;rw[Co,Bm] at hre;subst hre;try refine ae ?_
  exact⟨_,rfl,hV,hvo⟩
theorem aRG{F:Fr}{h:Ev.T AB}{ps:Int}{nv iv:AV}{s:Nat}(h1:aB s F= .agg [.int .i64 ps,nv,iv]):iT (.build [.int .i64 0,.ce,.ce,.int .i64 0,.bool false] [(0,3,.t s),(3,1,.c (.int .i64 1))]) F h=some (.agg [.int .i64 ps,nv,iv,.int .i64 1,.bool false]):=by
 show(aU (eQ _ (fG F [(0,3,.t s),(3,1,.c (.int .i64 1))])) fun cs=>some (AV.agg cs))=_;simp only[fG,show(cP.t s).val F= .agg [.int .i64 ps,nv,iv] from h1,eQ,aS,aH];rfl
theorem aFF{S:St}{nv iv:AV}{g:bD}{pr:Nat->Nat}(H:Has fns)(hn:bH 6 dC S nv g.bw)(hi:bH 2 fO S iv g.bz)(hln:g.bw.length<=100000)(hpr:eO g=0->nC g pr):
  eT fns (.fn 25 [] []) [.agg [.int .i64 g.b9,nv,iv]] S fun r S'=>Same S S'/\r=if eO g=0 then .tup [.int .i64 (aAW g pr),.int .i64 (aCi g pr)] else .tup [.int .i64 0,.int .i64 (eO g)]:=by
 refine bL H.f25 (by simp) ?_;refine ae ?_;refine bK ?_;refine cD (cs:=[.int .i64 g.b9,nv,iv]) rfl ?_;intro S1 s1 n1 c1;refine ae ?_;refine fA (cp (jT c1) ?_);refine aL (ae ?_);refine aF (aFq H (bH.same (E:=dC) cR hn s1) (bH.same (E:=fO) fC hi s1) hln) ?_;rintro _ X ⟨rfl,hX⟩;have sX:=s1.trans hX;have cX:=(hX.2 _ (show S.nx<S1.nx by omega)).trans c1;try refine ae ?_
 refine bK (ae ?_);by_cases h0:eO g=0;rotate_left
 ·rw[if_neg h0];refine aP (by simp only[↓sU,sD,rE,↓reduceIte,rA,Ac (show eO g≠0 from h0)]) ?_;refine bK (ae ?_);refine aK (ae ?_);exact sX
 rw[if_pos h0];have G:=rF h0;have P:=hpr h0;have⟨T,hT,hTl,_⟩:=G.good.walk;refine aO (by simp only[↓sU,sD,rE,↓reduceIte,rA,Aa (show ¬eO g≠0 from fun h=>h h0)]) (aJ ?_);try refine ae ?_
 refine bK (d7 (jT cX) @gL ?_);rw[aRG (ps:=g.b9) (nv:=nv) (iv:=iv) (aq)];refine ap ?_;refine cD (cs:=[.int .i64 g.b9,nv,iv,.int .i64 1,.bool false]) (by refine ap ?_;exact aS _) ?_;intro Y y1 k1 g1;refine ap ?_;have sY:=sX.trans y1;refine fA (ap ?_);refine aL (ap ?_);have hv:=aIY (S0:=S) (sb:=X.nx) (nv:=nv) (iv:=iv) H G P hn sX.1 (g.bw.length+1) (S:=Y) (i:=0) (p:= -1) (d:=0) (z:=1) (by unfold pQ at hT;exact hT) sY au g1 rfl;rw[P.zero,Ao,hTl] at hv;refine aF hv ?_;rintro _ Z ⟨hZ,hvo⟩;have sZ:Same S Z:=hZ.same sY sX.1;rcases hvo with⟨z,hs,hz⟩ | ⟨z,hs,hz⟩
 ·have hs':Z.h.get X.nx=_:=hs;have l4:=ldc (j:=4) hs' rfl;try refine ap ?_
  refine bK (ef @aY @bB @aD @aC l4 ?_);refine aP (aq) ?_;refine bK (ap ?_);refine aK ?_;simp only[↓stU,aG,rE,↓reduceIte,rA];unfold aAW aCi;rw[hz];exact⟨sZ,rfl⟩
 ·have hs':Z.h.get X.nx=_:=hs;have l4:=ldc (j:=4) hs' rfl;have l3:=ldc (j:=3) hs' rfl;try refine ap ?_
  refine bK (ef @aY @bB @aD @aC l4 ?_);refine aO (aq) (aJ ?_);try refine ap ?_
  refine bK (ef @aY @bB @aD @aC l3 ?_);refine aK ?_;simp only[↓stU,aG,rE,↓reduceIte,rA];unfold aAW aCi;rw[hz];exact⟨sZ,rfl⟩
end Go.Ev.Gl
