import Derived.Test.YtiiplmagnlcpbaaGreatDoorGl17
set_option linter.unusedSimpArgs false
set_option linter.unusedVariables false
open Nat renaming reduceEqDiff -> rE, reduceAdd -> rA
set_option maxHeartbeats 0
namespace Go.Ev.Gl
variable {fns:T dD}
theorem aLx{m i j b c:Nat}{x y:AB}{h:T AB}(h1:Nat.testBit m i=true)(h2:Nat.testBit m j=true):cG m [⟨i,b,x⟩,⟨j,c,y⟩] h=([],(h.set b (some x)).set c (some y)):=by
 unfold cG;rw[show Nat.testBit m (kB.mk i b x).i=true from h1,aN,gQ h2]
section
variable {S X Y:St}{b5 b6:Nat}{ca cb co cu:bo}{s t:Bool}{l m l2 m2:bt}
end
theorem aBJ{n:Nat}(h:n<=9223372036854775808):n<B ^ 3:=Cg h ay
section
variable {S:St}{a:AV}{E:Int}{p:Rat}
end
theorem aDt{S:St}{z:Int}(H:Has fns)(h1: -9223372036854775808<=z)(h2:z<=9223372036854775807):eT fns (.fn 83 [] []) [.int .i64 z] S fun r S'=>r= .int .u64 (z.natAbs:Int)/\S'=S:=by
 refine bL H.f83 (by simp) ?_;refine aj ?_;refine bK (aj ?_);refine fA (aj ?_);by_cases hz:z<0
 ·refine aP (by simp only[↓stU,aG,rE,↓reduceIte,Ac hz]) ?_;have w1:IntKind.u64.wrap z=((2 ^ 64 - z.natAbs:Nat):Int):=by
   simp only[IntKind.wrap,IntKind.signed,IntKind.bits,Bool.false_and,Aw,Bx];omega
  have hneg:=aHt (a:=2 ^ 64 - z.natAbs) au au;rw[show 2 ^ 64 - (2 ^ 64 - z.natAbs)=z.natAbs by omega] at hneg;refine bK (eo w1 hneg ?_);refine aK ?_;simp only[↓stU,aG,rE,↓reduceIte]
 ·refine aO (by simp only[↓stU,aG,rE,↓reduceIte,Aa hz]) (aJ ?_);try refine aj ?_
  have w1:IntKind.u64.wrap z=(z.natAbs:Int):=by rw[wrap_u64 au au];omega
  refine bK (ek w1 ?_);refine aK ?_;simp only[↓stU,aG,rE,↓reduceIte]
def aKF(a b:Int):Rat:=mkRat (sg (decide (a<0) !=decide (b<0)) a.natAbs) b.natAbs
theorem aML(a b:Int)(h1:a.natAbs<=9223372036854775808)(h2:b.natAbs<=9223372036854775808)(hb:b≠0):uO 3 (aKF a b):=by
 have⟨k1,k2⟩:=aDs (n:=sg (decide (a<0) !=decide (b<0)) a.natAbs) (d:=b.natAbs) au;rw[pD] at k1;exact⟨Cg k1 (aBJ h1),Cg k2 (aBJ h2)⟩
def ofE(b:Int):Int:=if b=0 then 6 else 0
section
variable {S:St}{a b:Int}
theorem pof(H:Has fns)(hL:Laid S)(a1: -9223372036854775808<=a)(a2:a<=9223372036854775807)(b1: -9223372036854775808<=b)(b2:b<=9223372036854775807):eT fns (.fn 57 [] []) [.int .i64 a,.int .i64 b] S fun r S'=>aSL S' r (opt (ofE b) (aKF a b)) (ofE b)/\Same S S':=by
 refine bL H.f57 (by simp) ?_;refine aj ?_;refine bK ?_;refine cM ?_;intro S1 s1 n1 c1;refine aj ?_;refine fA ?_;simp only[↓stU,aG,rE,↓reduceIte];unfold ofE;by_cases hb:b=0
 ·rw[if_pos hb,aQ7 ay];refine aP (by simp only[↓stU,aG,rE,↓reduceIte,Ac hb]) ?_;refine bK (ek @aQ8 ?_);refine dH (b:=S.nx) (ak) (by simp only[↓stU,aG,rE,↓reduceIte,aS];rfl) c1 rfl rfl ?_;intro S2 s2 n2 c2;refine aj ?_;refine aK (eo @bR (mZ c2) ?_);exact⟨⟨_,_,_,rfl,rfl,rfl,rfl⟩,s2.same s1 (Af _)⟩
 rw[if_neg hb,aNu];refine aO (by simp only[↓stU,aG,rE,↓reduceIte,Aa hb]) (aJ ?_);try refine aj ?_
 refine bK (ek @aKM ?_);refine aL ?_;try refine aj ?_
 refine aF (aDt H a1 a2) ?_;rintro _ S2 ⟨rfl,hS2⟩;rw[hS2];try refine aj ?_
 refine aL ?_;try refine aj ?_
 refine aF (uQ H.f82 au) ?_;rintro xv S3 ⟨hx,s3⟩;try refine aj ?_
 refine aL ?_;try refine aj ?_
 refine aF (aDt H b1 b2) ?_;rintro _ S4 ⟨rfl,hS4⟩;rw[hS4];try refine aj ?_
 refine aL ?_;try refine aj ?_
 refine aF (uQ H.f82 au) ?_;rintro yv S5 ⟨hy,s5⟩;try refine aj ?_
 refine aL ?_;try refine aj ?_
 have FX:∀ {n:Nat},n<=9223372036854775808->Fits n:=fun h=>Fits.of (aBJ h) ay;refine aF (aKa H (hL.same (s1.trans (s3.trans s5))) (hx.same s5) hy (FX au) (FX au) au) ?_;rintro v S6 ⟨hv,s6⟩;obtain⟨v0,v1,v2,rfl⟩:=hv.cells;have s16:=s3.trans (s5.trans s6);have c6:S6.h.get S.nx=some (.cells [.bool false,.ce,.ce] false 0):=by rw[s16.2 _ au];exact c1
 try refine aj ?_
 refine dH (b:=S.nx) (ak) (by simp only[↓stU,aG,rE,↓reduceIte,aS];rfl) c6 rfl rfl ?_;intro S7 s7 n7 c7;refine aj ?_;refine aK (eo @bR (mZ c7) ?_);exact⟨⟨_,_,_,rfl,hv.st c6 rfl s7 c7⟩,s7.same (s1.trans s16) (Af _)⟩
end
section
variable {S:St}{v w:AV}{s:Bool}{l m:bt}
end
end Go.Ev.Gl
namespace Go.Ev.Gl
def gI(g:bD)(q k j:Nat):Prop:=q<g.bw.length/\k<(cj g q).next.length/\(cj g q).next.getD k 0=(j:Int)
theorem gI.lt{g:bD}{q k j:Nat}(G:jI g)(h:gI g q k j):q<j/\j<g.bw.length:=by
 have⟨h1,h2,h3⟩:=h;have:=G.kids q h1 k h2;omega
theorem gI.uni{g:bD}{q k q' k' j:Nat}(G:jI g)(h:gI g q k j)(h':gI g q' k' j):q=q'/\k=k':=by
 have⟨T,_,hTl,hW⟩:=G.walk;have⟨h1,h2,h3⟩:=h;have⟨k1,k2,k3⟩:=h';have mem:∀ {q k},k<(cj g q).next.length->(cj g q).next.getD k 0=(j:Int)->(j:Int)∈iB g (0+q):=fun {q k} hk e=>by
  rw[Ao,kR,<-e,Ae,Ad hk];exact Cv hk
 have⟨_,_,a⟩:=hW.cf q au _ (mem h2 h3);have⟨_,_,b⟩:=hW.cf q' au _ (mem k2 k3);rw[a] at b;have e:q=q':=by
  have:=Cd b;omega
 subst e;refine⟨rfl,?_⟩;have hi:=hW.inc q au;rw[Ao,kR] at hi;rcases Gv k k' with h | h | h
 ·have:=Fg.1 hi k k' h2 k2 h;rw[Ae,Ad h2] at h3;rw[Ae,Ad k2] at k3;have h3:(cj g q).next[k]=(j:Int):=h3;have k3:(cj g q).next[k']=(j:Int):=k3;omega
 ·exact h
 ·have:=Fg.1 hi k' k k2 h2 h;rw[Ae,Ad h2] at h3;rw[Ae,Ad k2] at k3;have h3:(cj g q).next[k]=(j:Int):=h3;have k3:(cj g q).next[k']=(j:Int):=k3;omega
def eY(g:bD)(i k j:Nat):Prop:=j=0\/∃q m,gI g q m j/\(q<i\/(q=i/\m<k))
theorem eY.zero{g:bD}{i k:Nat}:eY g i k 0:=.inl rfl
theorem eY.all{g:bD}(G:jI g){j k:Nat}(hj:j<g.bw.length):eY g g.bw.length k j:=by
 rcases An j with h | h
 ·exact .inl h
 ·have⟨q,m,h1,h2,h3⟩:=gB G h hj;exact .inr ⟨q,m,⟨au,h2,h3⟩,.inl au⟩
theorem eY.old{g:bD}(G:jI g){i:Nat}(hi:i<g.bw.length):eY g i 0 i:=by
 rcases An i with h | h
 ·exact .inl h
 ·have⟨q,m,h1,h2,h3⟩:=gB G h hi;exact .inr ⟨q,m,⟨au,h2,h3⟩,.inl h1⟩
theorem eY.next{g:bD}{i k j:Nat}(h:(cj g i).next.length<=k):eY g i k j↔eY g (i+1) 0 j:=by
 constructor
 ·rintro(h0 | ⟨q,m,h1,h2⟩)
  ·exact .inl h0
  ·exact .inr ⟨q,m,h1,.inl au⟩
 ·rintro(h0 | ⟨q,m,h1,h2⟩)
  ·exact .inl h0
  ·refine .inr ⟨q,m,h1,?_⟩;rcases h2 with h2 | h2
   ·by_cases e:q=i
    ·subst e;exact .inr ⟨rfl,aw h1.2.1⟩
    ·exact .inl au
   ·omega
theorem eY.succ{g:bD}(G:jI g){i k j x:Nat}(h:gI g i k j):eY g i (k+1) x↔(eY g i k x\/x=j):=by
 constructor
 ·rintro(h0 | ⟨q,m,h1,h2⟩)
  ·exact .inl (.inl h0)
  ·rcases h2 with h2 | ⟨rfl,h2⟩
   ·exact .inl (.inr ⟨q,m,h1,.inl h2⟩)
   ·by_cases e:m=k
    ·subst e;right;have:=h.2.2;have:=h1.2.2;omega
    ·exact .inl (.inr ⟨q,m,h1,.inr ⟨rfl,au⟩⟩)
 ·rintro(h0 | rfl)
  ·rcases h0 with h0 | ⟨q,m,h1,h2⟩
   ·exact .inl h0
   ·exact .inr ⟨q,m,h1,au⟩
  ·exact .inr ⟨i,k,h,.inr ⟨rfl,au⟩⟩
theorem eY.fresh{g:bD}(G:jI g){i k j:Nat}(h:gI g i k j):¬eY g i k j:=by
 rintro(h0 | ⟨q,m,h1,h2⟩)
 ·have:=h.lt G;omega
 ·have⟨e1,e2⟩:=h.uni G h1;omega
structure xQ(n:Nat)(v:Nat->Int)(D:Nat->Prop)(l:bm):Prop where
 len:l.length=n
 on:∀j,j<n->D j->l.getD j 0=v j
 off:∀j,j<n->¬D j->l.getD j 0=0
section
variable {n:Nat}{v:Nat->Int}{D D':Nat->Prop}{l:bm}{j:Nat}
theorem xQ.congr(h:xQ n v D l)(e:∀x,D' x↔D x):xQ n v D' l:=⟨h.len,fun x hx hd=>h.on x hx ((e x).1 hd),fun x hx hd=>h.off x hx fun a=>hd ((e x).2 a)⟩
theorem xQ.set(h:xQ n v D l)(hj:j<n):xQ n v (fun x=>D x\/x=j) (l.set j (v j)):=by
 refine⟨by rw[Cl];exact h.len,fun x hx hd=>?_,fun x hx hd=>?_⟩
 ·rw[jA (by rw[h.len];exact hj)];by_cases e:x=j
  ·rw[if_pos e,e]
  ·rw[if_neg e];exact h.on x hx (hd.resolve_right e)
 ·rw[jA (by rw[h.len];exact hj),if_neg fun e=>hd (.inr e)];exact h.off x hx fun a=>hd (.inl a)
end
end Go.Ev.Gl
namespace Go.Ev.Gl
theorem aBu{α:Type}{g:bD}(G:jI g)(z:α)(F:Nat->Nat->α->α):∃v:Nat->α,v 0=z/\∀i k j,gI g i k j->v j=F i k (v i):=by
 have key:∀n:Nat,∃v:Nat->α,v 0=z/\∀i k j,gI g i k j->j<n->v j=F i k (v i):=by
  intro n
  induction n with
  | zero=>exact⟨fun _=>z,rfl,fun i k j _ h=>au⟩
  | succ n ih=>
   have⟨v,h0,h⟩:=ih;by_cases hp:∃q m,gI g q m n
   ·have⟨q,m,hq⟩:=hp;have hl:=hq.lt G;refine⟨fun x=>if x=n then F q m (v q) else v x,by simp only;rw[if_neg au];exact h0,fun i k j hk hj=>?_⟩;have hkl:=hk.lt G;simp only;by_cases e:j=n
    ·subst e;obtain⟨rfl,rfl⟩:=hk.uni G hq;rw[if_pos rfl,if_neg au]
    ·rw[if_neg e,if_neg au];exact h i k j hk au
   ·exact⟨v,h0,fun i k j hk hj=>by
     by_cases e:j=n
     ·subst e;exact absurd ⟨i,k,hk⟩ hp
     ·exact h i k j hk au⟩
 have⟨v,h0,h⟩:=key g.bw.length;exact⟨v,h0,fun i k j hk=>h i k j hk (hk.lt G).2⟩
def rI(g:bD)(ch:bm)(i:Nat):Int:=ch.getD (cj g i).info.toNat 0
structure Cnt(g:bD)(ch:bm)(sz:Int)(cn:Nat->Int):Prop where
 zero:cn 0=sz
 cha:∀i k j,gI g i k j->(cj g i).kind=1->cn j=cn i / ((wN g i:Nat):Int) * (cj g i).weights.getD k 0
 mv:∀i k j,gI g i k j->(cj g i).kind≠1->cn j=if rI g ch i=(k:Int) then cn i else 0
structure Lst(g:bD)(ch:bm)(ls pl:Nat->Int):Prop where
 zero:ls 0=0/\pl 0=1
 cha:∀i k j,gI g i k j->(cj g i).kind=1->ls j=ls i+pl i * ((cj g i).weights.take k).sum/\pl j=pl i * ((wN g i:Nat):Int)
 mv:∀i k j,gI g i k j->(cj g i).kind≠1->ls j=(if rI g ch i=(k:Int) then ls i else 0)/\pl j=if rI g ch i=(k:Int) then pl i else 0
open Classical in
theorem aI6{g:bD}(G:jI g)(ch:bm)(sz:Int):∃cn,Cnt g ch sz cn:=by
 have⟨v,h0,h⟩:=aBu G sz fun i k c=>if(cj g i).kind=1 then c / ((wN g i:Nat):Int) * (cj g i).weights.getD k 0 else if rI g ch i=(k:Int) then c else 0;exact⟨v,h0,fun i k j hk h1=>by rw[h i k j hk,if_pos h1],fun i k j hk h1=>by rw[h i k j hk,if_neg h1]⟩
open Classical in
theorem aJ8{g:bD}(G:jI g)(ch:bm):∃ls pl,Lst g ch ls pl:=by
 have⟨v,h0,h⟩:=aBu G ((0:Int),(1:Int)) fun i k c=>if(cj g i).kind=1 then(c.1+c.2 * ((cj g i).weights.take k).sum,c.2 * ((wN g i:Nat):Int)) else(if rI g ch i=(k:Int) then c.1 else 0,if rI g ch i=(k:Int) then c.2 else 0);refine⟨fun x=>(v x).1,fun x=>(v x).2,⟨by rw[h0],by rw[h0]⟩,fun i k j hk h1=>?_,fun i k j hk h1=>?_⟩
 ·rw[h i k j hk,if_pos h1];exact⟨rfl,rfl⟩
 ·rw[h i k j hk,if_neg h1];exact⟨rfl,rfl⟩
theorem Cnt.down{g:bD}{ch:bm}{sz:Int}{cn:Nat->Int}(C:Cnt g ch sz cn){i k j:Nat}(h:gI g i k j)(h0:cn j≠0):cn i≠0/\((cj g i).kind≠1->rI g ch i=(k:Int)):=by
 by_cases h1:(cj g i).kind=1
 ·refine⟨fun e=>h0 ?_,fun e=>absurd h1 e⟩;rw[C.cha i k j h h1,e,Int.zero_ediv,Int.zero_mul]
 ·rw[C.mv i k j h h1] at h0;by_cases e:rI g ch i=(k:Int)
  ·rw[if_pos e] at h0;exact⟨h0,fun _=>e⟩
  ·rw[if_neg e] at h0;exact absurd rfl h0
end Go.Ev.Gl
namespace Go.Ev.Gl
inductive Anc(g:bD):Nat->Nat->Prop where
 | refl (i:Nat):Anc g i i
 | kid {i k c j:Nat}:gI g i k c->Anc g c j->Anc g i j
theorem Anc.trans{g:bD}{i c j:Nat}(h:Anc g i c)(h':Anc g c j):Anc g i j:=by
 induction h with
 | refl=>exact h'
 | kid hk _ ih=>exact .kid hk (ih h')
theorem aOz{g:bD}(G:jI g):∀n,∀j,j<=n->j<g.bw.length->Anc g 0 j:=by
 intro n
 induction n with
 | zero=>
  intro j hj _;obtain rfl:j=0:=by omega
  exact .refl 0
 | succ n ih=>
  intro j hj hN;rcases An j with h | h
  ·rw[h];exact .refl 0
  ·have⟨q,m,h1,h2,h3⟩:=gB G h hN;exact(ih q au au).trans (.kid ⟨au,h2,h3⟩ (.refl j))
theorem Anc.le{g:bD}(G:jI g){i j:Nat}(h:Anc g i j):i<=j:=by
 induction h with
 | refl=>exact Af _
 | kid hk _ ih=>have:=hk.lt G;omega
theorem Anc.sub{g:bD}{T:List dP}(G:jI g)(hT:pQ g=some T)(hl:T.length=g.bw.length){a:Nat}(ha:a<g.bw.length){i j:Nat}(h:Anc g i j)(hi:a<=i/\i<a+pZ T a):a<=j/\j<a+pZ T a:=by
 induction h with
 | refl=>exact hi
 | @kid i k c j hk _ ih=>
  refine ih ?_;have hm:(c:Int)∈(cj g i).next:=by
   rw[<-hk.2.2,Ae,Ad hk.2.1];exact Cv hk.2.1
  have:=aPr hT hl ha hi hk.1 hm;omega
theorem aJ7{g:bD}(G:jI g){i j k:Nat}(h:Anc g i j)(hne:i≠j)(hi:i<g.bw.length)(hk:k<(cj g i).next.length)(h1:k=0\/(cj g i).next.getD k 0<=(j:Int))(h2:k+1<(cj g i).next.length->(j:Int)<(cj g i).next.getD (k+1) 0):∃c:Nat,gI g i k c/\Anc g c j:=by
 have hN:=G.n2;have⟨T,hT,hl,_⟩:=G.walk;cases h with
 | refl=>exact absurd rfl hne
 | @kid _ m c _ hm hc=>
  have hcl:=hm.lt G;have hcj:=hc.le G;have hsz:=(aK2 hT hl au (show c<g.bw.length by omega)).2;have hin:=hc.sub G hT hl hcl.2 (a:=c) ⟨Af _,au⟩;have hmn:=hm.2.1;have hinc:∀a b,a<b->b<(cj g i).next.length->(cj g i).next.getD a 0<(cj g i).next.getD b 0:=fun a b hab hb=>by
   have h3:=aEB hT hl hi hab hb au;have⟨c1,c2⟩:=G.kids i hi a au;have⟨d1,d2⟩:=G.kids i hi b hb;have h4:=(aK2 hT hl au (show((cj g i).next.getD a 0).toNat<g.bw.length by omega)).2.1;omega
  have e:m=k:=by
   rcases Gv m k with h | h | h
   ·have h3:=aEB hT hl hi h hk au;rw[hm.2.2,Bd] at h3;have⟨d1,d2⟩:=G.kids i hi k hk;rcases h1 with h1 | h1<;>omega
   ·exact h
   ·have h3:=h2 au;have h4:=hm.2.2;by_cases e:k+1=m
    ·rw[e] at h3;omega
    ·have:=hinc (k+1) m au hmn;omega
  subst e;exact⟨c,hm,hc⟩
end Go.Ev.Gl
namespace Go.Ev.Gl
theorem aGQ{l:bm}(h:∀w∈l,1<=w):∀ {k:Nat},k<l.length->0<=(l.take k).sum/\(l.take k).sum+l.getD k 0<=l.sum/\1<=l.getD k 0:=by
 induction l with
 | nil=>intro k hk;cases hk
 | cons x l ih=>
  intro k hk;have hx:=h x (Bn ..);have hl:∀w∈l,1<=w:=fun w hw=>h w (Bf _ hw);have hs:0<=l.sum:=by
   clear ih hk hx h
   induction l with
   | nil=>exact Int.le_refl 0
   | cons y l ih=>
    have:=hl y (Bn ..);have:=ih fun w hw=>hl w (Bf _ hw);rw[Ea];omega
  cases k with
  | zero=>
   rw[Ha,List.sum_nil,Ea];show 0<=(0:Int)/\0+x<=x+l.sum/\1<=x;omega
  | succ k=>
   have:=ih hl (k:=k) (by simpa using hk);rw[Gf,Ea,Ea];show 0<=x+(l.take k).sum/\x+(l.take k).sum+l.getD k 0<=x+l.sum/\1<=l.getD k 0;omega
section
variable {g:bD}{ch:bm}{sz:Int}{cn ls pl:Nat->Int}{pr:Nat->Nat}
theorem vE(G:fH g){i k j:Nat}(h:gI g i k j)(h1:(cj g i).kind=1):0<=((cj g i).weights.take k).sum/\((cj g i).weights.take k).sum+(cj g i).weights.getD k 0<=((wN g i:Nat):Int)/\1<=(cj g i).weights.getD k 0:=by
 have hw:=G.good.wts i h.1 h1;have hk:k<(cj g i).weights.length:=by rw[hw];exact h.2.1
 have:=aGQ (fun w hw=>((G.chn i h.1 h1).1 w hw).1) hk;unfold wN;rw[if_pos h1];omega
theorem Anc.cnt(C:Cnt g ch sz cn){i j:Nat}(h:Anc g i j)(hj:cn j≠0):cn i≠0:=by
 induction h with
 | refl=>exact hj
 | kid hk _ ih=>exact(C.down hk (ih hj)).1
theorem Cnt.bd(C:Cnt g ch sz cn)(G:fH g)(hs:0<=sz):∀ {j:Nat},j<g.bw.length->0<=cn j/\cn j<=sz:=by
 intro j
 induction j using Nat.strongRecOn with
 | ind j ih=>
  intro hj;rcases An j with h0 | h0
  ·subst h0;rw[C.zero];omega
  ·have⟨q,k,hq,hk,he⟩:=gB G.good h0 hj;have hK:gI g q k j:=⟨au,hk,he⟩;have⟨b1,b2⟩:=ih q hq au;by_cases h1:(cj g q).kind=1
   ·rw[C.cha q k j hK h1];have⟨w1,w2,w3⟩:=vE G hK h1;have hw:=uP G hK.1;obtain⟨c,hc⟩:∃c:Nat,cn q=(c:Int):=⟨_,(Bu b1).symm⟩;obtain⟨w,hw'⟩:∃w:Nat,(cj g q).weights.getD k 0=(w:Int):=⟨_,(Bu au).symm⟩;rw[hc,hw',<-Int.natCast_ediv];have h2:c / wN g q * w<=c:=Bb (Bh _ au) (Nat.div_mul_le_self c (wN g q));rw[<-Bk];omega
   ·rw[C.mv q k j hK h1];split<;>omega
theorem Lst.bd(L:Lst g ch ls pl)(P:nC g pr)(G:fH g):∀ {j:Nat},j<g.bw.length->(pl j=0/\ls j=0)\/(pl j=((pr j:Nat):Int)/\0<=ls j/\ls j<pl j):=by
 intro j
 induction j using Nat.strongRecOn with
 | ind j ih=>
  intro hj;rcases An j with h0 | h0
  ·subst h0;rw[L.zero.1,L.zero.2,P.zero];exact .inr ⟨rfl,by decide,by decide⟩
  ·have⟨q,k,hq,hk,he⟩:=gB G.good h0 hj;have hK:gI g q k j:=⟨au,hk,he⟩;have hp:=P.kid q au k hk;rw[he,Bd] at hp;by_cases h1:(cj g q).kind=1
   ·have⟨l1,l2⟩:=L.cha q k j hK h1;have⟨w1,w2,w3⟩:=vE G hK h1;rcases ih q hq au with⟨e1,e2⟩ | ⟨e1,e2,e3⟩
    ·rw[l1,l2,e1,e2,Int.zero_mul,Int.zero_mul];exact .inl ⟨rfl,rfl⟩
    rw[l1,l2,hp,Bk,<-e1];refine .inr ⟨rfl,?_,?_⟩
    ·have:=Cz (show 0<=pl q by omega) w1;omega
    ·have h2:pl q * (((cj g q).weights.take k).sum+1)<=pl q * ((wN g q:Nat):Int):=Cj au au;rw[Hm,Int.mul_one] at h2;omega
   ·have⟨l1,l2⟩:=L.mv q k j hK h1;by_cases hc:rI g ch q=(k:Int)
    ·rw[if_pos hc] at l1 l2;rw[l1,l2,hp];unfold wN;rw[if_neg h1,Bt];exact ih q hq au
    ·rw[if_neg hc] at l1 l2;exact .inl ⟨l2,l1⟩
end
end Go.Ev.Gl
namespace Go.Ev.Gl
section
variable {g:bD}{v:Nat->Int}{l:bm}{i:Nat}
theorem eY.mono{i k k' j:Nat}(h:eY g i k j)(hk:k<=k'):eY g i k' j:=by
 rcases h with h | ⟨q,m,h1,h2⟩
 ·exact .inl h
 ·exact .inr ⟨q,m,h1,au⟩
theorem eY.split{j:Nat}(h:eY g (i+1) 0 j):eY g i 0 j\/∃m,gI g i m j:=by
 rcases h with h | ⟨q,m,h1,h2⟩
 ·exact .inl (.inl h)
 ·by_cases e:q=i
  ·subst e;exact .inr ⟨m,h1⟩
  ·exact .inl (.inr ⟨q,m,h1,.inl au⟩)
theorem eY.join{j:Nat}(h:eY g i 0 j):eY g (i+1) 0 j:=by
 rcases h with h | ⟨q,m,h1,h2⟩
 ·exact .inl h
 ·exact .inr ⟨q,m,h1,.inl au⟩
theorem eY.kid{j m:Nat}(h:gI g i m j):eY g (i+1) 0 j:=.inr ⟨i,m,h,.inl au⟩
theorem xQ.move(G:jI g)(h:xQ g.bw.length v (eY g i 0) l){k j:Nat}(hk:gI g i k j)(hv:∀m c,gI g i m c->m≠k->v c=0):xQ g.bw.length v (eY g (i+1) 0) (l.set j (v j)):=by
 have hj:=(hk.lt G).2;refine⟨by rw[Cl];exact h.len,fun x hx hd=>?_,fun x hx hd=>?_⟩
 ·rw[jA (by rw[h.len];exact hj)];by_cases e:x=j
  ·rw[if_pos e,e]
  ·rw[if_neg e];rcases hd.split with hd | ⟨m,hm⟩
   ·exact h.on x hx hd
   ·have hne:m≠k:=fun e2=>e (by
     subst e2;have a:=hm.2.2;have b:=hk.2.2;omega)
    rw[h.off x hx fun a=>eY.fresh G hm (a.mono (Dt m)),hv m x hm hne]
 ·rw[jA (by rw[h.len];exact hj),if_neg fun e=>hd (by rw[e];exact eY.kid hk)];exact h.off x hx fun a=>hd a.join
theorem xQ.start{n:Nat}(hn:0<n):xQ n v (eY g 0 0) ((List.replicate n (0:Int)).set 0 (v 0)):=by
 refine⟨by rw[Cl,Bp],fun x hx hd=>?_,fun x hx hd=>?_⟩
 ·rcases hd with rfl | ⟨q,m,h1,h2⟩
  ·rw[jA (by rw[Bp];exact hn),if_pos rfl]
  ·omega
 ·rw[jA (by rw[Bp];exact hn),if_neg fun e=>hd (.inl e)];rw[Ae,Fz];split<;>rfl
theorem xQ.all(G:jI g)(h:xQ g.bw.length v (eY g g.bw.length 0) l):l=(List.range g.bw.length).map v:=aLv h.len fun j hj=>h.on j hj (eY.all G hj)
end
variable {fns:T dD}
theorem cH.ptr'{k:IntKind}{S:St}{v:AV}{l:bm}{i:Nat}(h:cH k S v l)(hi:i<l.length):∃b off,dT (.slice 1) v i=some (.ptr b off)/\b<S.nx/\dJ (.ptr b off) false 1 S.h=some (.int k (l.getD i 0)):=by
 have ia:=h.cq hi;have ld:=h.ld hi;rcases h with⟨h0,_⟩ | ⟨b,off,cap,o,cs,rfl,_,hb,_⟩
 ·rw[h0] at hi;simp at hi
 ·simp only[nQ] at ia ld;exact⟨b,_,ia,hb,ld⟩
noncomputable def aSi:List AO:=[mt 61 7,
oq 62 (.cw 3 (.t 9)),
om 63 2 (ld 62),
mt 64 1,
oq 65 (.cw 2 (.t 9)),
om 66 16 (ld 65),
om 67 56 (.cq (.slice 1) (.t 64) (.t 66)),
om 68 120 (ld 67),
om 69 254 (.cq (.slice 1) (.t 63) (.t 68)),
om 70 510 (ld 69),
mt 71 7,
mt 72 8,
om 73 3072 (.cq (.slice 1) (.t 71) (.t 72)),
om 74 7168 (ld 73),
om 75 16383 (.cq (.slice 1) (.t 61) (.t 70))]
def aRB(S:St)(lb:Nat)(g:bD)(cn:Nat->Int)(cv nv:AV)(k:Nat)(A:bN)(X:St):Prop:=A.inr=false/\Same S X/\lb<X.nx/\∃ (i:Nat) (l:bm),i+k=g.bw.length/\xQ g.bw.length cn (eY g i 0) l/\X.h.get lb=some (.cells (bE l) false 0)/\aB 1 A.F=cv/\aB 7 A.F= .sl lb 0 g.bw.length g.bw.length false/\aB 21 A.F=nv/\aB 22 A.F= .int .i64 (g.bw.length:Int)/\aB 23 A.F= .int .i64 (i:Int)
def aS9(S:St)(lb nb:Nat)(g:bD)(cn:Nat->Int)(cv nv xa:AV)(cells:bo)(i:Nat)(k:Nat)(A:bN)(X:St):Prop:=A.inr=false/\Same S X/\lb<X.nx/\nb<X.nx/\X.h.get nb=some (.cells cells false 0)/\∃ (q:Nat) (l:bm),q+k=(cj g i).next.length/\xQ g.bw.length cn (eY g i q) l/\X.h.get lb=some (.cells (bE l) false 0)/\aB 1 A.F=cv/\aB 7 A.F= .sl lb 0 g.bw.length g.bw.length false/\aB 9 A.F= .ptr nb 0/\aB 10 A.F= .int .i64 (cn i / ((wN g i:Nat):Int))/\aB 21 A.F=nv/\aB 22 A.F= .int .i64 (g.bw.length:Int)/\aB 23 A.F= .int .i64 (i:Int)/\aB 41 A.F=xa/\aB 42 A.F= .int .i64 (((cj g i).next.length:Nat):Int)/\aB 43 A.F= .int .i64 (q:Int)
theorem aAN{S:St}{nv iv cv:AV}{g:bD}{ch:bm}{sz:Int}{cn:Nat->Int}(H:Has fns)(G:fH g)(hn:bH 6 dC S nv g.bw)(hc:cH .i64 S cv ch)(hfit:∀i,i<g.bw.length->(cj g i).kind=2->(cj g i).info.toNat<ch.length/\0<=rI g ch i/\rI g ch i<((cj g i).next.length:Int))(C:Cnt g ch sz cn)(hs:0<=sz)(hs2:sz<=1000000000000000):
  eT fns (.fn 30 [] []) [.agg [.int .i64 g.b9,nv,iv],cv,.int .i64 sz] S fun r S'=>aHm S S' r ((List.range g.bw.length).map cn)/\Same S S':=by
 have hN:=G.good.n2;have hN1:=G.good.n1;have snv:=bH.self hn;refine bL H.f30 (by simp) ?_;refine ap ?_;refine bK ?_;refine cD (cs:=[.int .i64 g.b9,nv,iv]) rfl ?_;intro S1 s1 n1 g1;refine ap ?_;refine bK (ed @aD @aC (mO g1) hn.len ?_);refine oR (oJ (n:=g.bw.length) (by simp only[↓stU,aG,rE,↓reduceIte,rA,aW]) (by simp only[↓stU,aG,rE,↓reduceIte,rA,aW]) ax ax) ?_;intro S2 s2 n2 c2;rw[aGw] at c2;refine ap ?_;have nz:dS (.int .i64 0)=some 0:=rfl;refine bK ?_;refine d7 nz (mR (b:=S1.nx) (o:=false) hN1) ?_;refine fK (fun call=>by refine d7 @dW @cN ?_;exact aGl (S:=S2) c2 (by rw[Bp];exact hN1)) ?_;refine ae ?_;have s02:=s1.trans s2;obtain⟨S3,hS3⟩:∃S3:St,S3=⟨S2.h.set S1.nx (some (.cells (bE ((List.replicate g.bw.length (0:Int)).set 0 sz)) false 0)),S2.nx⟩:=⟨_,rfl⟩;rw[<-hS3];have s03:Same S S3:=by rw[hS3];exact s02.put au _
 have c3:S3.h.get S1.nx=some (.cells (bE ((List.replicate g.bw.length (0:Int)).set 0 sz)) false 0):=by rw[hS3];simp only;rw[dq,if_pos rfl]
 have n3:S1.nx<S3.nx:=by rw[hS3];show S1.nx<S2.nx;omega
 have g3:S3.h.get S.nx=some (.cells [.int .i64 g.b9,nv,iv] false 0):=by
  rw[hS3];simp only;rw[dq,if_neg au];exact(s2.2 _ au).trans g1
 have hst:=xQ.start (g:=g) (v:=cn) hN1;rw[C.zero] at hst;generalize hlb:S1.nx=lb at *;have hlb2:S.nx<lb:=by omega
 refine fA (di @aD @aC (mO g3) hn.len ?_);refine bG (Q:=fun o A' X=>o= .normal/\aRB S lb g cn cv nv 0 A' X) (aQ (bX (aRB S lb g cn cv nv) ?_ g.bw.length _ _ ⟨rfl,s03,n3,0,_,au,hst,c3,af,af,by simp only[↓sU,sD,rE,↓reduceIte,rA];try exact snv,ag,ag⟩)) ?_;rotate_left
 ·rintro o ⟨F,inr⟩ X ⟨rfl,q0,sX,lX,i,l,hik,hl,cX,p1,p7,_⟩;simp only at q0 p7;subst q0;obtain rfl:i=g.bw.length:=by omega
  try refine ae ?_
  refine bK (cp p7 ?_);refine aK (ae ?_);rw[hl.all G.good] at cX;exact⟨⟨lb,by rw[Ce,Eq],au,lX,cX⟩,sX⟩
 clear hst c3 s03 s02 hS3 g3 s2 c2 n2 s1 g1 n1 n3;rintro k ⟨F,inr⟩ X ⟨q0,sX,lX,i,l,hik,hl,cX,p1,p7,p21,p22,p23⟩;simp only at q0 p1 p7 p21 p22 p23;subst q0;refine bK (c9 p22 p23 ?_);by_cases hlt:i<g.bw.length;rotate_left
 ·refine aE (aO (by simp only[↓sU,sD,rE,↓reduceIte,rA,Aa (show ¬ (i:Int)<(g.bw.length:Int) by omega)]) (bS ?_));refine ae ?_;obtain rfl:k=0:=by omega
  exact⟨rfl,sX,lX,i,l,hik,hl,cX,by refine⟨?_,?_,?_,?_,?_⟩<;>simp only[↓sU,sD,rE,↓reduceIte,rA,p1,p7,p21,p22,p23]⟩
 refine aE (aP (by simp only[↓sU,sD,rE,↓reduceIte,rA,Ac (show(i:Int)<(g.bw.length:Int) by omega)]) (aJ ?_));try refine ae ?_
 have w0:=dk i
 obtain⟨_,bx,qx,hiax,hbx,_,⟨xa,xw,xp,rfl,hxa,hxw,hxp⟩,hldx,_⟩:=bH.at hn ay (iK hlt);rw[<-aAs sX hbx] at hldx;refine aE (aQ (aE (aM ?_)));refine ef p21 p23 @aW hiax hldx ?_;refine cM ?_;intro W1 v1 k1 h1;try refine ap ?_
 refine dH (b:=X.nx) (aq) (by refine ap ?_;exact aS _) h1 rfl rfl ?_;intro Y v2 k2 h2;refine ae ?_;have sXY:Same X Y:=v2.same v1 (Af _);have nX:=sX.1;have lxY:X.nx<Y.nx:=by omega
 have lbY:lb<Y.nx:=by omega
 have cY:Y.h.get lb=some (.cells (bE l) false 0):=(sXY.2 _ lX).trans cX;have sY:=sX.trans sXY;clear v1 v2 h1 k1;refine bK (dh @aD @aC (mN h2) ?_);have hold:=hl.on i hlt (eY.old G.good hlt);have hbd:=C.bd G hs hlt;have sxa:=cH.self hxa;have sxw:=cH.self hxw;have sxp:=cH.self hxp;have sag:=aA4 (x0:=(cj g i).kind) (x1:=(cj g i).player) (x2:=(cj g i).info) (k:=.i64) sxa sxw sxp;have hnode:dC S [.int .i64 (cj g i).kind,.int .i64 (cj g i).player,.int .i64 (cj g i).info,xa,xw,xp] (cj g i):=⟨xa,xw,xp,rfl,hxa,hxw,hxp⟩;have hnx:=G.good.nxt i hlt;have hll:i<l.length:=by rw[hl.len];exact hlt
 have hiO:=mR (b:=lb) (o:=false) hlt;have hlO:=aJ0 cY hll;rw[hold] at hlO;have nbl:X.nx≠lb:=by omega
 have nSY:S.nx<=Y.nx:=sY.1;have fin:∀ (F':Fr) (Z:St) (l':bm),Same S Z->lb<Z.nx->xQ g.bw.length cn (eY g (i+1) 0) l'->Z.h.get lb=some (.cells (bE l') false 0)->aB 1 F'=cv->aB 7 F'= .sl lb 0 g.bw.length g.bw.length false->aB 21 F'=nv->aB 22 F'= .int .i64 (g.bw.length:Int)->aB 23 F'= .int .i64 ((i+1:Nat):Int)->∃k',k'<k/\aRB S lb g cn cv nv k' ⟨F',false⟩ Z:=fun F' Z l' a b c d e1 e2 e3 e4 e5=>⟨k - 1,au,rfl,a,b,i+1,l',au,c,d,e1,e2,e3,e4,e5⟩;refine aQ (aE (aM ?_));refine ae ?_;rcases G.knd i hlt with hk1 | hk2 | hk3
 ·have⟨hsm,hs1⟩:=G.small hlt hk1;have hwl:=G.good.wts i hlt hk1;have hse:(cj g i).weights.sum=((wN g i:Nat):Int):=by unfold wN;rw[if_pos hk1];omega
  refine aP (by simp only[↓sU,sD,rE,↓reduceIte,rA,Ac hk1]) ?_;have hb:∀ (F:Fr) (h:Ev.T AB),iT (.build [] []) F h=some (.agg []):=fun _ _=>rfl;have hib:dK (.build [] [])=false:=rfl;have ldn:=ldN h2;refine aE (fJ (fun _=>False) ?_);intro Y1 y1;simp only[↓sU,sD,rE,↓reduceIte,rA,p7,aW,hiO,hlO,hb,hib,ldn,sag,lbY,lxY,kO,Am];refine cF rfl ?_;refine ae ?_;refine aF (aAI H rfl (cR hnode (sY.trans y1)) hsm) ?_;rintro _ Z ⟨rfl,hZ⟩;refine⟨hZ,?_⟩;have sYZ:=y1.trans hZ;have h2Z:=(sYZ.2 _ lxY).trans h2;have cZ:=(sYZ.2 _ lbY).trans cY;have sZ:=sY.trans sYZ;have nZ:Y.nx<=Z.nx:=sYZ.1;have hquo:=mB (.p .int) (a:=cn i) (b:=((wN g i:Nat):Int)) au au au;refine c9 hse hquo ?_;refine bK ?_;refine di @aD @aC (jU h2Z) ((hxa.same sZ).len) ?_;generalize hcells: [AV.int .i64 (cj g i).kind,.int .i64 (cj g i).player,.int .i64 (cj g i).info,xa,xw,xp]=cells at h2Z;refine bG (Q:=fun o A' Z=>o= .normal/\aS9 S lb X.nx g cn cv nv xa cells i 0 A' Z) (aQ (bX (aS9 S lb X.nx g cn cv nv xa cells i) ?_ (cj g i).next.length _ _ ⟨rfl,sZ,by show lb<Z.nx;omega,by show X.nx<Z.nx;omega,h2Z,0,l,au,hl,cZ,ah p1,ah p7,af,af,ah p21,ah p22,ah p23,by simp only[↓sU,sD,rE,↓reduceIte,rA];try exact sxa,ag,ag⟩)) ?_;rotate_left
  ·rintro o ⟨F2,inr⟩ W ⟨rfl,q0,sW,lW,_,_,q,l',hqk,hl',cW,r1,r7,_,_,r21,r22,r23,_⟩;simp only at q0 r1 r7 r21 r22 r23;subst q0;try refine ae ?_
   refine aM (c9 r23 w0 ?_);exact fin _ W l' sW lW (hl'.congr fun x=>(eY.next au).symm) cW (ah r1) (ah r7) (ah r21) (ah r22) (af)
  clear fin p1 p7 p21 p22 p23 h2Z cZ sYZ hZ y1 hlO cY h2;rintro k2 ⟨F2,inr⟩ W ⟨q0,sW,lW,lnW,hW,q,l',hqk,hl',cW,r1,r7,r9,r10,r21,r22,r23,r41,r42,r43⟩;simp only at q0 r1 r7 r9 r10 r21 r22 r23 r41 r42 r43;subst q0;refine bK (c9 r42 r43 ?_);by_cases hql:q<(cj g i).next.length;rotate_left
  ·refine aE (aO (by simp only[↓sU,sD,rE,↓reduceIte,rA,Aa (show ¬ (q:Int)<(((cj g i).next.length:Nat):Int) by omega)]) (bS ?_));refine ae ?_;obtain rfl:k2=0:=by omega
   exact⟨rfl,sW,lW,lnW,hW,q,l',hqk,hl',cW,by refine⟨?_,?_,?_,?_,?_,?_,?_,?_,?_,?_⟩<;>simp only[↓sU,sD,rE,↓reduceIte,rA,r1,r7,r9,r10,r21,r22,r23,r41,r42,r43]⟩
  refine aE (aP (by simp only[↓sU,sD,rE,↓reduceIte,rA,Ac (show(q:Int)<(((cj g i).next.length:Nat):Int) by omega)]) (aJ ?_));try refine ae ?_
  have wq:=dk q
  have⟨d1,d2⟩:=G.good.kids i hlt q hql;obtain⟨c,hc'⟩:∃c:Nat,(cj g i).next.getD q 0=(c:Int):=⟨_,(Bu au).symm⟩;have hK:gI g i q c:=⟨hlt,hql,hc'⟩;have hcl:=(hK.lt G.good).2;have hcv:=C.cha i q c hK hk1;have hcb:=C.bd G hs hcl;have xaW:=hxa.same sW;have xwW:=hxw.same sW;have iaq:=xaW.cq hql;have ldq:=xaW.ld hql;rw[hc'] at ldq;have hqw:q<(cj g i).weights.length:=by omega
  have iwq:=xwW.cq hqw;have lwq:=xwW.ld hqw;rw[<-hcells] at hW;refine aE (aQ (aE (aM ?_)));refine du r41 r43 @aW iaq ldq ?_;have wm:IntKind.i64.wrap (cn i / ((wN g i:Nat):Int) * (cj g i).weights.getD q 0)=cn c:=by rw[<-hcv];exact wrap_i64 au au
  refine aM ?_;simp only[↓stU,aG,rE,↓reduceIte,rA,r7,r9,r10,aD,aC,kE hW,aW,iwq,lwq,wm,mR (b:=lb) (o:=false) hcl];refine fK (fun call=>by refine d7 @dW @cN ?_;exact aGl (S:=W) cW (by rw[hl'.len];exact hcl)) ?_;refine ae ?_;refine aM (c9 r43 wq ?_);refine⟨k2 - 1,au,rfl,sW.put au _,lW,lnW,by simp only;rw[dq,if_neg nbl,<-hcells];exact hW,q+1,l'.set c (cn c),au,(hl'.set hcl).congr fun x=>eY.succ G.good hK,fh,by refine⟨?_,?_,?_,?_,?_,?_,?_,?_,?_,?_⟩<;>simp only[↓sU,sD,rE,↓reduceIte,rA,r1,r7,r9,r10,r21,r22,r23,r41,r42]⟩
 ·refine aO (by simp only[↓sU,sD,rE,↓reduceIte,rA,Aa (show ¬ (cj g i).kind=1 by omega)]) ?_;refine bK (ae ?_);refine aP (by simp only[↓sU,sD,rE,↓reduceIte,rA,Ac hk2]) ?_;have⟨f1,f2,f3⟩:=hfit i hlt hk2;obtain⟨c0,hc0⟩:∃c0:Nat,rI g ch i=(c0:Int):=⟨_,(Bu f2).symm⟩;have hql:c0<(cj g i).next.length:=by omega
  have⟨d1,d2⟩:=G.good.kids i hlt c0 hql;obtain⟨c,hc'⟩:∃c:Nat,(cj g i).next.getD c0 0=(c:Int):=⟨_,(Bu au).symm⟩;have hK:gI g i c0 c:=⟨hlt,hql,hc'⟩;have hcl:=(hK.lt G.good).2;have hcv:=C.mv i c0 c hK au;rw[if_pos hc0] at hcv;have⟨i1,i2,_⟩:=G.good.inf i hlt hk2;obtain⟨si,hsi⟩:∃si:Nat,(cj g i).info=(si:Int):=⟨_,(Bu i1).symm⟩;have hsl:si<ch.length:=by rw[hsi] at f1;simpa using f1
  have⟨bc,oc,iac,lac,dac⟩:=cH.ptr' (hc.same sY) hsl;have hch:ch.getD si 0=(c0:Int):=by rw[<-hc0];unfold rI;rw[hsi,Bd]
  rw[hch] at dac;have⟨ba,oa,iaa,laa,daa⟩:=cH.ptr' (hxa.same sY) hql;rw[hc'] at daa;have hlO':dJ (.ptr lb i) false 1 Y.h=some (.int .i64 (cn i)):=hlO;refine uC (pre:=aSi) (K:=15) (m:=32767) (n:=1) (x:=.t 75) (v:=.t 74) rfl rfl rfl rfl ?_;unfold aSi;simp only[↓stU,aG,rE,↓reduceIte,rA,p1,p7,aD,aX,aC,jU h2,kC h2,hsi,aW,iac,dac,iaa,daa,hiO,hlO,mR (b:=lb) (o:=false) hcl,sxa,true_and];simp only[cN,aH];refine⟨_,aGl (S:=⟨Y.h,Y.nx+16⟩) cY (by rw[hl.len];exact hcl),?_⟩;try refine ae ?_
  refine aM (c9 p23 w0 ?_);have hmv:=hl.move G.good hK fun m c2 hm hne=>by
   rw[C.mv i m c2 hm au,if_neg fun e=>hne au]
  rw[hcv] at hmv;exact fin _ _ (l.set c (cn i)) ⟨by show S.nx<=Y.nx+16;omega,fun b hb=>by
   simp only;rw[dq,if_neg au];exact sY.2 b hb⟩ (by show lb<Y.nx+16;omega) hmv fh (ah p1) (ah p7) (ah p21) (ah p22) (af)
 ·have hnx0:=G.fin i hlt hk3;refine aO (by simp only[↓sU,sD,rE,↓reduceIte,rA,Aa (show ¬ (cj g i).kind=1 by omega)]) ?_;refine bK (ae ?_);refine aO (by simp only[↓sU,sD,rE,↓reduceIte,rA,Aa (show ¬ (cj g i).kind=2 by omega)]) (aJ ?_);try refine ae ?_
  refine aM (c9 p23 w0 ?_);exact fin _ Y l sY lbY (hl.congr fun x=>(eY.next (by rw[hnx0];exact Af 0)).symm) cY (ah p1) (ah p7) (ah p21) (ah p22) (af)
def aTV(S:St)(nb:Nat)(cells:bo)(x:dI)(j:Nat)(m:Nat)(A:bN)(X:St):Prop:=A.inr=false/\Same S X/\nb<X.nx/\X.h.get nb=some (.cells cells false 0)/\∃k:Nat,k+m+1=x.next.length/\(k=0\/x.next.getD k 0<=(j:Int))/\aB 1 A.F= .int .i64 (j:Int)/\aB 2 A.F= .ptr nb 0/\aB 5 A.F= .int .i64 (k:Int)
theorem aGo{S:St}{cs:bo}{x:dI}{j:Nat}(H:Has fns)(hx:dC S cs x)(h1:1<=x.next.length)(h2:x.next.length<=1000):
  eT fns (.fn 56 [] []) [.agg cs,.int .i64 (j:Int)] S fun r S'=>Same S S'/\∃k:Nat,r= .int .i64 (k:Int)/\k<x.next.length/\(k=0\/x.next.getD k 0<=(j:Int))/\(k+1<x.next.length->(j:Int)<x.next.getD (k+1) 0):=by
 obtain⟨xa,xw,xp,rfl,hxa,hxw,hxp⟩:=hx;refine bL H.f56 (by simp) ?_;refine ae ?_;refine bK ?_;refine cD (by refine ae ?_;exact aS _) ?_;intro S1 s1 n1 g1;refine ae ?_;refine bK (ae ?_);have lb:S.nx<S1.nx:=by omega
 refine aE (bG (Q:=fun o A' X=>o= .normal/\A'.inr=false/\Same S X/\∃k:Nat,k<x.next.length/\(k=0\/x.next.getD k 0<=(j:Int))/\(k+1<x.next.length->(j:Int)<x.next.getD (k+1) 0)/\aB 5 A'.F= .int .i64 (k:Int)) (aQ (bX (aTV S S.nx [.int .i64 x.kind,.int .i64 x.player,.int .i64 x.info,xa,xw,xp] x j) ?_ (x.next.length - 1) _ _ ⟨rfl,s1,lb,g1,0,au,.inl rfl,af,af,ag⟩)) ?_);rotate_left
 ·rintro o ⟨F,inr⟩ X ⟨rfl,q0,sX,k,hk1,hk2,hk3,p5⟩;simp only at q0 p5;subst q0;try refine ae ?_
  refine bK (cp p5 ?_);refine aK (ae ?_);exact⟨sX,k,rfl,hk1,hk2,hk3⟩
 clear g1 lb n1 s1;rintro m ⟨F,inr⟩ X ⟨q0,sX,lX,gX,k,hkm,hk,p1,p2,p5⟩;simp only at q0 p1 p2 p5;subst q0;have w1:=dk k
 have xaX:=hxa.same sX;refine fA ?_;by_cases hlt:k+1<x.next.length;rotate_left
 ·simp only[↓sU,sD,rE,↓reduceIte,rA,p1,p2,p5,aD,aC,jU gX,xaX.len,Ak,w1,Aa (show ¬ ((k+1:Nat):Int)<(x.next.length:Int) by omega)];refine aO (af) (bS ?_);refine ae ?_;exact⟨sX,k,au,hk,fun h=>absurd h hlt,ah p5⟩
 have ia:=xaX.cq hlt;have ld:=xaX.ld hlt;simp only[↓sU,sD,rE,↓reduceIte,rA,p1,p2,p5,aD,aC,jU gX,xaX.len,Ak,w1,aW,ia,ld,Ac (show((k+1:Nat):Int)<(x.next.length:Int) by omega)];by_cases hle:x.next.getD (k+1) 0<=(j:Int);rotate_left
 ·refine aO (by simp only[↓sU,sD,rE,↓reduceIte,rA,Aa hle]) (bS ?_);refine ae ?_;exact⟨sX,k,au,hk,fun _=>au,ah p5⟩
 refine aP (by simp only[↓sU,sD,rE,↓reduceIte,rA,Ac hle]) (aJ ?_);try refine ae ?_
 refine aQ (aM ?_);refine c9 p5 w1 ?_;exact⟨m - 1,au,rfl,sX,lX,gX,k+1,au,.inr hle,by refine⟨?_,?_,?_⟩<;>simp only[↓sU,sD,rE,↓reduceIte,rA,p1,p2]⟩
theorem aOS{k:Nat}{α:Type}{E:St->bo->α->Prop}{S:St}{v:AV}{l:List α}(h:bH k E S v l){n:Nat}(hn:n<l.length):∃v',(∀ (F:Fr) (x:cP),dS (x.val F)=some n->oS (.slice k) v none (some x) none F=some v')/\bH k E S v' (l.take n):=by
 rcases h with⟨h0,_⟩ | ⟨b,off,cap,o,cs,rfl,hc,hb,hcs,hel⟩
 ·subst h0;cases hn
 ·have e1:Nat.ble cap cap=true:=Ah (Af _);have e2:Nat.ble n cap=true:=Ah au;have e3:Nat.ble 0 n=true:=Ah (Dt _);have e4:Nat.beq cap 0=false:=by rw[Ca];intro h;rw[Az] at h;omega
  refine⟨.sl b off n cap o,fun F x hx=>?_,.inr ⟨b,off,cap,o,cs,by rw[Bq,Dm au],by rw[Bq];omega,hb,hcs,fun i a hi=>?_⟩⟩
  ·simp only[oS,aDR,jP,iU,aH,hx,e1,e2,e3,aN,e4,aR,Gu,Fu,Bm,Option.isNone_none];cases o<;>rfl
  ·rw[List.getElem?_take] at hi;split at hi
   ·exact hel i a hi
   ·cases hi
def aSx(S:St)(gb:Nat)(g:bD)(nv iv:AV)(ls pl:Nat->Int)(j:Nat)(k:Nat)(A:bN)(X:St):Prop:=A.inr=false/\Same S X/\gb<X.nx/\X.h.get gb=some (.cells [.int .i64 g.b9,nv,iv] false 0)/\∃i:Nat,i+k=j/\Anc g i j/\aB 1 A.F= .int .i64 (j:Int)/\aB 2 A.F= .ptr gb 0/\aB 5 A.F= .int .i64 (ls i)/\aB 6 A.F= .int .i64 (pl i)/\aB 7 A.F= .int .i64 (i:Int)
def aS8(S:St)(gb nb:Nat)(g:bD)(nv iv:AV)(cells:bo)(ls pl:Nat->Int)(j i k n:Nat)(v29:AV)(m:Nat)(A:bN)(X:St):Prop:=A.inr=false/\Same S X/\gb<X.nx/\X.h.get gb=some (.cells [.int .i64 g.b9,nv,iv] false 0)/\nb<X.nx/\X.h.get nb=some (.cells cells false 0)/\∃q:Nat,q+m=n/\aB 1 A.F= .int .i64 (j:Int)/\aB 2 A.F= .ptr gb 0/\aB 5 A.F= .int .i64 (ls i+pl i * ((cj g i).weights.take q).sum)/\aB 6 A.F= .int .i64 (pl i)/\aB 8 A.F= .ptr nb 0/\aB 9 A.F= .int .i64 (k:Int)/\aB 29 A.F=v29/\aB 30 A.F= .int .i64 (n:Int)/\aB 31 A.F= .int .i64 (q:Int)
theorem aJJ{S:St}{nv iv:AV}{g:bD}{ch:bm}{sz:Int}{cn ls pl:Nat->Int}{pr:Nat->Nat}{j:Nat}(H:Has fns)(G:fH g)(hn:bH 6 dC S nv g.bw)(C:Cnt g ch sz cn)(L:Lst g ch ls pl)(P:nC g pr)(hb:∀i,i<g.bw.length->pr i<=1000000000000000)(hj:j<g.bw.length)(hc:cn j≠0):
  eT fns (.fn 33 [] []) [.agg [.int .i64 g.b9,nv,iv],.int .i64 (j:Int)] S fun r S'=>r= .int .i64 (ls j)/\Same S S':=by
 have hN:=G.good.n2;have snv:=bH.self hn;refine bL H.f33 (by simp) ?_;refine ae ?_;refine bK ?_;refine cD (cs:=[.int .i64 g.b9,nv,iv]) rfl ?_;intro S1 s1 n1 g1;refine ae ?_;refine bK (ae ?_);have lb:S.nx<S1.nx:=by omega
 refine aE (bG (Q:=fun o A' X=>o= .normal/\aSx S S.nx g nv iv ls pl j 0 A' X) (aQ (bX (aSx S S.nx g nv iv ls pl j) ?_ j _ _ ⟨rfl,s1,lb,g1,0,au,aOz G.good j j (Af _) hj,af,af,by simp only[↓sU,sD,rE,↓reduceIte,rA,L.zero.1],by simp only[↓sU,sD,rE,↓reduceIte,rA,L.zero.2],ag⟩)) ?_);rotate_left
 ·rintro o ⟨F,inr⟩ X ⟨rfl,q0,sX,_,_,i,hij,_,_,_,p5,_⟩;simp only at q0 p5;subst q0;obtain rfl:i=j:=by omega
  try refine ae ?_
  refine bK (cp p5 ?_);refine aK (ae ?_);exact sX
 clear g1 lb n1 s1;rintro m ⟨F,inr⟩ X ⟨q0,sX,lX,gX,i,him,hA,p1,p2,p5,p6,p7⟩;simp only at q0 p1 p2 p5 p6 p7;subst q0;refine fA (c9 p1 p7 ?_);by_cases hij:i=j
 ·refine aO (by simp only[↓sU,sD,rE,↓reduceIte,rA,Aa (show ¬ (i:Int)≠(j:Int) by omega)]) (bS ?_);refine ae ?_;obtain rfl:m=0:=by omega
  exact⟨rfl,sX,lX,gX,i,him,hA,by refine⟨?_,?_,?_,?_,?_⟩<;>simp only[↓sU,sD,rE,↓reduceIte,rA,p1,p2,p5,p6,p7]⟩
 refine aP (by simp only[↓sU,sD,rE,↓reduceIte,rA,Ac (show(i:Int)≠(j:Int) by omega)]) (aJ ?_);try refine ae ?_
 have hlt:i<g.bw.length:=by omega
 obtain⟨_,bx,qx,hiax,hbx,_,⟨xa,xw,xp,rfl,hxa,hxw,hxp⟩,hldx,_⟩:=bH.at hn ay (iK hlt);rw[<-aAs sX hbx] at hldx;refine aQ (aE (aM ?_));refine eh p2 p7 @aD @aC (mO gX) @aW hiax hldx ?_;refine cM ?_;intro W1 v1 k1 h1;try refine ap ?_
 refine dH (b:=X.nx) (aq) (by refine ap ?_;exact aS _) h1 rfl rfl ?_;intro Y v2 k2 h2;refine ae ?_;have sXY:Same X Y:=v2.same v1 (Af _);have nX:=sX.1;have lxY:X.nx<Y.nx:=by omega
 have sY:=sX.trans sXY;have gY:=(sXY.2 _ lX).trans gX;have lbY:=Ag lX sXY.1;clear v1 v2 h1 k1;have hnode:dC S [.int .i64 (cj g i).kind,.int .i64 (cj g i).player,.int .i64 (cj g i).info,xa,xw,xp] (cj g i):=⟨xa,xw,xp,rfl,hxa,hxw,hxp⟩;have hnx:=G.good.nxt i hlt;have hne1:1<=(cj g i).next.length:=by
  cases hA with
  | refl=>exact absurd rfl hij
  | kid hk _=>have:=hk.2.1;omega
 have ldn:=ldN h2;refine bK (d7 ldn p1 ?_);refine aL (ap ?_);refine aF (aGo (j:=j) H (cR hnode sY) hne1 hnx) ?_;rintro _ Z ⟨sYZ,k,rfl,hk1,hk2,hk3⟩;try refine ae ?_
 have⟨c,hK,hAc⟩:=aJ7 G.good hA hij hlt hk1 hk2 hk3;have hcl:=(hK.lt G.good).2;have hcc:=hAc.cnt C hc;have hdn:=C.down hK hcc;have sZ:=sY.trans sYZ;have gZ:=(sYZ.2 _ lbY).trans gY;have lZ:=Ag lbY sYZ.1;have h2Z:=(sYZ.2 _ lxY).trans h2;have lxZ:=Ag lxY sYZ.1;have hci:=(hK.lt G.good).1;have hcj:=hAc.le G.good;have hLi:=L.bd P G hlt;have hLc:=L.bd P G hcl;have hbi:=hb i hlt;have hbc:=hb c hcl;have hp0:0<=pl i/\pl i<=1000000000000000/\0<=ls i/\ls i<=1000000000000000:=by omega
 have hpc:0<=pl c/\pl c<=1000000000000000/\0<=ls c/\ls c<=1000000000000000:=by omega
 clear hLi hLc hbi hbc;refine aE (bG (Q:=fun o A' W=>o= .normal/\A'.inr=false/\Same S W/\S.nx<W.nx/\W.h.get S.nx=some (.cells [.int .i64 g.b9,nv,iv] false 0)/\W.h.get X.nx=some (.cells [.int .i64 (cj g i).kind,.int .i64 (cj g i).player,.int .i64 (cj g i).info,xa,xw,xp] false 0)/\aB 1 A'.F= .int .i64 (j:Int)/\aB 2 A'.F= .ptr S.nx 0/\aB 5 A'.F= .int .i64 (ls c)/\aB 6 A'.F= .int .i64 (pl c)/\aB 8 A'.F= .ptr X.nx 0/\aB 9 A'.F= .int .i64 (k:Int)) (aE (aM ?_)) ?_);rotate_left
 ·rintro o ⟨F2,inr⟩ W ⟨rfl,q0,sW,lW,gW,hW,r1,r2,r5,r6,r8,r9⟩;simp only at q0 r1 r2 r5 r6 r8 r9;subst q0;try refine ae ?_
  have xaW:=hxa.same sW;have iak:=xaW.cq hk1;have ldk:=xaW.ld hk1;rw[hK.2.2] at ldk;refine aM (dy r8 r9 @aD @aC (jU hW) @aW iak ldk ?_);exact⟨j - c,au,rfl,sW,lW,gW,c,au,hAc,by refine⟨?_,?_,?_,?_,?_⟩<;>simp only[↓sU,sD,rE,↓reduceIte,rA,r1,r2,r5,r6]⟩
 refine dh @aD @aC (mN h2Z) ?_;by_cases hkd:(cj g i).kind=1;rotate_left
 ·have⟨l1,l2⟩:=L.mv i k c hK hkd;rw[if_pos (hdn.2 hkd)] at l1 l2;refine aO (by simp only[↓sU,sD,rE,↓reduceIte,rA,Aa hkd]) (aJ ?_);exact⟨rfl,rfl,sZ,lZ,gZ,h2Z,by refine⟨?_,?_,?_,?_,?_,?_⟩<;>simp only[↓sU,sD,rE,↓reduceIte,rA,p1,p2,p5,l1,p6,l2]⟩
 have⟨l1,l2⟩:=L.cha i k c hK hkd;have⟨hsm,hs1⟩:=G.small hlt hkd;have hwl:=G.good.wts i hlt hkd;have hse:(cj g i).weights.sum=((wN g i:Nat):Int):=by unfold wN;rw[if_pos hkd];omega
 have hkw:k<(cj g i).weights.length:=by omega
 have⟨v',e1,e2⟩:=aOS (toG hxw) hkw;have e2:=ofG e2;have hs:∀F:Fr,aB 28 F= .int .i64 (k:Int)->oS (.slice 1) xw none (some (.t 28)) none F=some v':=fun F h=>e1 F (.t 28) (by show dS (aB 28 F)=_;rw[h,aW]);have hlen:=e2.len;rw[Bq,Dm au] at hlen;refine aP (by simp only[↓sU,sD,rE,↓reduceIte,rA,Ac hkd]) ?_;refine fA (dw @aD @aC (kE h2Z) @aCL hs hlen ?_);generalize hcells: [AV.int .i64 (cj g i).kind,.int .i64 (cj g i).player,.int .i64 (cj g i).info,xa,xw,xp]=cells at h2Z;refine bG (Q:=fun o A' W=>o= .normal/\aS8 S S.nx X.nx g nv iv cells ls pl j i k k v' 0 A' W) (aQ (bX (aS8 S S.nx X.nx g nv iv cells ls pl j i k k v') ?_ k _ _ ⟨rfl,sZ,lZ,gZ,lxZ,h2Z,0,au,ah p1,ah p2,by simp only[↓sU,sD,rE,↓reduceIte,rA,p5,Ha,List.sum_nil,Int.mul_zero,Int.add_zero],ah p6,af,af,af,ag,ag⟩)) ?_
 ·clear p1 p2 p5 p6 p7;rintro m2 ⟨F2,inr⟩ W ⟨q0,sW,lW,gW,lnW,hW,q,hqk,r1,r2,r5,r6,r8,r9,r29,r30,r31⟩;simp only at q0 r1 r2 r5 r6 r8 r9 r29 r30 r31;subst q0;refine bK (c9 r30 r31 ?_);by_cases hql:q<k;rotate_left
  ·refine aE (aO (by simp only[↓sU,sD,rE,↓reduceIte,rA,Aa (show ¬ (q:Int)<(k:Int) by omega)]) (bS ?_));refine ae ?_;obtain rfl:m2=0:=by omega
   exact⟨rfl,sW,lW,gW,lnW,hW,q,hqk,by refine⟨?_,?_,?_,?_,?_,?_,?_,?_,?_⟩<;>simp only[↓sU,sD,rE,↓reduceIte,rA,r1,r2,r5,r6,r8,r9,r29,r30,r31]⟩
  refine aE (aP (by simp only[↓sU,sD,rE,↓reduceIte,rA,Ac (show(q:Int)<(k:Int) by omega)]) (aJ ?_));try refine ae ?_
  have wq:=dk q
  have hqt:q<((cj g i).weights.take k).length:=by rw[Bq];omega
  have vW:=e2.same sW;have iaq:=vW.cq hqt;have ldq:=vW.ld hqt;rw[Ae,List.getElem?_take,if_pos hql,<-Ae] at ldq;have hqw:q<(cj g i).weights.length:=by omega
  have⟨t1,t2,t3⟩:=aGQ (fun w hw=>((G.chn i hlt hkd).1 w hw).1) hqw;have hst:=aCZ hqw;have hmul:pl i * (((cj g i).weights.take q).sum+(cj g i).weights.getD q 0)<=pl i * ((wN g i:Nat):Int):=Cj au hp0.1;rw[Hm,<-l2] at hmul;have m0:=Cz hp0.1 t1;have m1:=Cz hp0.1 (show 0<=(cj g i).weights.getD q 0 by omega);have wm:IntKind.i64.wrap (pl i * (cj g i).weights.getD q 0)=pl i * (cj g i).weights.getD q 0:=wrap_i64 au au;have wa:IntKind.i64.wrap (ls i+pl i * ((cj g i).weights.take q).sum+pl i * (cj g i).weights.getD q 0)=ls i+pl i * ((cj g i).weights.take (q+1)).sum:=by
   rw[hst,Hm,wrap_i64 au au];omega
  refine aE (aQ (aE (aM ?_)));refine du r29 r31 @aW iaq ldq ?_;refine aM (di r5 r6 wm wa ?_);refine aM (c9 r31 wq ?_);exact⟨m2 - 1,au,rfl,sW,lW,gW,lnW,hW,q+1,au,by refine⟨?_,?_,?_,?_,?_,?_,?_,?_,?_⟩<;>simp only[↓sU,sD,rE,↓reduceIte,rA,r1,r2,r6,r8,r9,r29,r30]⟩
 rintro o ⟨F2,inr⟩ W ⟨rfl,q0,sW,lW,gW,lnW,hW,q,hqk,r1,r2,r5,r6,r8,r9,_⟩;simp only at q0 r1 r2 r5 r6 r8 r9;subst q0;obtain rfl:q=k:=by omega
 try refine ae ?_
 rw[<-hcells] at hW;have hb:∀ (F:Fr) (h:Ev.T AB),iT (.build [] []) F h=some (.agg []):=fun _ _=>rfl;have ldn2:=ldN hW;have wl:IntKind.i64.wrap (pl i * ((wN g i:Nat):Int))=pl c:=by rw[<-l2];exact wrap_i64 au au
 refine aM (ed r6 r8 hb ldn2 ?_);refine aL (ap ?_);refine aF (aAI H rfl (cR hnode sW) hsm) ?_;rintro _ V ⟨rfl,sWV⟩;refine c9 hse wl ?_;rw[<-l1] at r5;exact⟨sW.trans sWV,Ag lW sWV.1,(sWV.2 _ lW).trans gW,by rw[<-hcells];exact(sWV.2 _ lnW).trans hW,r1,r2,r5,r8,r9⟩
end Go.Ev.Gl
