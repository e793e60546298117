import Derived.Test.YtdkehphobhnjoaaGl28
open Nat renaming reduceEqDiff -> rE, reduceAdd -> rA
set_option maxHeartbeats 0
set_option linter.unusedSimpArgs false
set_option linter.unusedVariables false
namespace Go.Ev.Gl
section
variable {a b c d m n p q r x:Nat}
theorem aEo(h1:a<=x)(h2:x<a+n):iP a b n x=x - a+b:=by unfold iP;rw[if_pos ⟨h1,h2⟩]
theorem aGI(hab:a+n<=b)(h1:b<=x)(h2:x<b+n):iP a b n x=x - b+a:=by unfold iP;rw[if_neg ay,if_pos ⟨h1,h2⟩]
theorem kN(h1:x<a\/a+n<=x)(h2:x<b\/b+n<=x):iP a b n x=x:=by unfold iP;rw[if_neg ay,if_neg ay]
theorem aAo(h:a+n<=b\/b+n<=a):iP a b n x=iP b a n x:=by
 unfold iP;split
 ·split
  ·omega
  ·rfl
 ·rfl
theorem aJA(hcd:c+m<=d)(h1:a<=c)(h2:d+m<=a+n)(hx:a<=x/\x<a+n):a<=iP c d m x/\iP c d m x<a+n:=by
 unfold iP;split
 ·omega
 ·split<;>omega
theorem aGV(hab:a+n<=b)(hcd:c+m<=d)(h1:a+n<=c\/c+m<=a)(h2:a+n<=d\/d+m<=a)(h3:b+n<=c\/c+m<=b)(h4:b+n<=d\/d+m<=b):iP a b n (iP c d m x)=iP c d m (iP a b n x):=by
 by_cases k1:a<=x/\x<a+n
 ·rw[kN (a:=c) (b:=d) ay ay,aEo k1.1 k1.2,kN ay ay]
 ·by_cases k2:b<=x/\x<b+n
  ·rw[kN (a:=c) (b:=d) ay ay,aGI hab k2.1 k2.2,kN ay ay]
  ·rw[kN (a:=a) (b:=b) (x:=x) ay ay];by_cases k3:c<=x/\x<c+m
   ·rw[aEo k3.1 k3.2,kN ay ay]
   ·by_cases k4:d<=x/\x<d+m
    ·rw[aGI hcd k4.1 k4.2,kN ay ay]
    ·rw[kN (a:=c) (b:=d) (x:=x) ay ay,kN (a:=a) (b:=b) (x:=x) ay ay]
theorem aMR(hab:a+n<=b)(hcd:c+m<=d)(h1:a<=c)(h2:d+m<=a+n):iP a b n (iP c d m (iP a b n (iP c d m x)))=iP c d m (iP a b n (iP c d m (iP a b n x))):=by
 by_cases k1:a<=x/\x<a+n
 ·have⟨i1,i2⟩:=aJA hcd h1 h2 k1;rw[aEo i1 i2,kN (a:=c) (b:=d) (x:=iP c d m x - a+b) ay ay,aGI hab (x:=iP c d m x - a+b) ay ay,aEo (a:=a) (b:=b) k1.1 k1.2,kN (a:=c) (b:=d) (x:=x - a+b) ay ay,aGI hab (x:=x - a+b) ay ay,show x - a+b - b+a=x by omega];omega
 ·by_cases k2:b<=x/\x<b+n
  ·rw[kN (a:=c) (b:=d) (x:=x) ay ay,aGI hab k2.1 k2.2];have⟨i1,i2⟩:=aJA hcd h1 h2 (x:=x - b+a) ay;rw[aEo i1 i2,kN (a:=c) (b:=d) (x:=iP c d m (x - b+a) - a+b) ay ay]
  ·rw[kN (a:=c) (b:=d) (x:=x) ay ay,kN (a:=a) (b:=b) (x:=x) ay ay,kN (a:=c) (b:=d) (x:=x) ay ay,kN (a:=a) (b:=b) (x:=x) ay ay,kN (a:=c) (b:=d) (x:=x) ay ay]
theorem aLP(hab:a+n<=b)(hcd:c+m<=d)(h1:b<=c)(h2:d+m<=b+n):iP a b n (iP c d m (iP a b n (iP c d m x)))=iP c d m (iP a b n (iP c d m (iP a b n x))):=by
 by_cases k1:b<=x/\x<b+n
 ·have⟨i1,i2⟩:=aJA hcd h1 h2 k1;rw[aGI hab i1 i2,kN (a:=c) (b:=d) (x:=iP c d m x - b+a) ay ay,aEo (x:=iP c d m x - b+a) ay ay,aGI hab k1.1 k1.2,kN (a:=c) (b:=d) (x:=x - b+a) ay ay,aEo (x:=x - b+a) ay ay,show x - b+a - a+b=x by omega];omega
 ·by_cases k2:a<=x/\x<a+n
  ·rw[kN (a:=c) (b:=d) (x:=x) ay ay,aEo k2.1 k2.2];have⟨i1,i2⟩:=aJA hcd h1 h2 (x:=x - a+b) ay;rw[aGI hab i1 i2,kN (a:=c) (b:=d) (x:=iP c d m (x - a+b) - b+a) ay ay]
  ·rw[kN (a:=c) (b:=d) (x:=x) ay ay,kN (a:=a) (b:=b) (x:=x) ay ay,kN (a:=c) (b:=d) (x:=x) ay ay,kN (a:=a) (b:=b) (x:=x) ay ay,kN (a:=c) (b:=d) (x:=x) ay ay]
theorem aHX(h1:p<=x)(h2:x<p+n):iP p q n x=x - p+q:=aEo h1 h2
theorem aHf(h:p+n<=q\/q+n<=p)(h1:q<=x)(h2:x<q+n):iP p q n x=x - q+p:=by rw[aAo h,aEo h1 h2]
theorem aAS(h1:p+n<=q\/q+n<=p)(h2:p+n<=r\/r+n<=p)(h3:q+n<=r\/r+n<=q):iP p q n (iP p r n (iP p q n x))=iP p r n (iP p q n (iP p r n x)):=by
 by_cases k1:p<=x/\x<p+n
 ·rw[aHX (q:=q) k1.1 k1.2,kN (a:=p) (b:=r) (x:=x - p+q) ay ay,aHf h1 (x:=x - p+q) ay ay,aHX (q:=r) k1.1 k1.2,kN (a:=p) (b:=q) (x:=x - p+r) ay ay,aHf h2 (x:=x - p+r) ay ay];omega
 ·by_cases k2:q<=x/\x<q+n
  ·rw[aHf h1 k2.1 k2.2,aHX (q:=r) (x:=x - q+p) ay ay,kN (a:=p) (b:=q) (x:=x - q+p - p+r) ay ay,kN (a:=p) (b:=r) (x:=x) ay ay,aHf h1 k2.1 k2.2,aHX (q:=r) (x:=x - q+p) ay ay]
  ·by_cases k3:r<=x/\x<r+n
   ·rw[kN (a:=p) (b:=q) (x:=x) ay ay,aHf h2 k3.1 k3.2,aHX (q:=q) (x:=x - r+p) ay ay,kN (a:=p) (b:=r) (x:=x - r+p - p+q) ay ay]
   ·rw[kN (a:=p) (b:=q) (x:=x) ay ay,kN (a:=p) (b:=r) (x:=x) ay ay,kN (a:=p) (b:=q) (x:=x) ay ay,kN (a:=p) (b:=r) (x:=x) ay ay]
end
def Few(f h:Nat->Nat):Prop:=(∀x,f (h (f (h x)))=h (f (h (f x))))\/∀x,f (h (f x))=h (f (h x))
theorem Few.comm{f h:Nat->Nat}(H:Few f h):Few h f:=by
 rcases H with H | H
 ·exact .inl fun x=>(H x).symm
 ·exact .inr fun x=>(H x).symm
theorem aEW{f h:Nat->Nat}(H:∀x,f (h x)=h (f x)):Few f h:=.inl fun x=>by rw[H x,H (h (f x))]
end Go.Ev.Gl
namespace Go.Ev.Gl
theorem aI3{g:bD}{T:List cK}(hT:fJ g=some T)(hl:T.length=g.bk.length){a q:Nat}(ha:a<g.bk.length)(h1:a<=q)(h2:q<a+fA T a)(hq:q<g.bk.length):q+fA T q<=a+fA T a:=by
 have hw:eJ g.bk.length (dN g) (g.bk.length+1) 0 (-1) 0=some T:=hT;have K:=pR bg hw;have n:=aF1 bg hw;have last:∀j (hj:j<T.length),T[j].2.2=((j+fA T j - 1:Nat):Int)/\1<=fA T j:=fun j hj=>by
  have h1:=K.sz j T[j] (Ac hj);have h2:=xU K hj;rw[An] at h1;omega
 have hal:a<T.length:=by omega
 have hql:q<T.length:=by omega
 have e:=n.nest a q _ _ (Ac hal) (Ac hql) h1 (by rw[(last a hal).1];omega);rw[(last a hal).1,(last q hql).1] at e;have:=(last a hal).2;have:=(last q hql).2;omega
theorem aJQ{g:bD}{T:List cK}(hT:fJ g=some T)(hl:T.length=g.bk.length){i q:Nat}{c:Int}(hi:i<g.bk.length)(hq:q<g.bk.length)(hc:c∈(cd g i).next)(h1:(q:Int)<c)(h2:c<((q+fA T q:Nat):Int)):q<=i:=by
 have hw:eJ g.bk.length (dN g) (g.bk.length+1) 0 (-1) 0=some T:=hT;have K:=pR bg hw;have hf:=lK hw;have hnx:dN g (0+i)=(cd g i).next:=by rw[An];exact gS g i
 have⟨c1,c2,c3⟩:=hf.cf i ay c (by rw[hnx];exact hc);have hcl:c.toNat<T.length:=by omega
 have hql:q<T.length:=by omega
 have hpar:T[c.toNat].1=((0+i:Nat):Int):=by
  unfold kH at c3;rw[Eu,Ac hcl] at c3;exact Bl c3
 have h3:=K.sz q T[q] (Ac hql);have h4:=xU K hql;rw[An] at h3;have e:=K.nest q c.toNat _ _ (Ac hql) (Ac hcl) ay ay;rw[hpar] at e;omega
structure aBV(g:bD)(T:List cK)(i a b n:Nat):Prop where
 ii:i<g.bk.length
 idx:∃k j,k<j/\j<(cd g i).next.length/\(cd g i).next.getD k 0=(a:Int)/\(cd g i).next.getD j 0=(b:Int)
 sa:fA T a=n
 sb:fA T b=n
theorem aJj{l:bu}{k:Nat}(h:k<l.length):l.getD k 0∈l:=by
 rw[Ad,Ac h];exact Bo h
section
variable {g:bD}{T:List cK}{i j a b c d m n:Nat}
theorem aBV.facts(h:aBV g T i a b n)(G:eY g)(hT:fJ g=some T)(hl:T.length=g.bk.length):i<a/\a+n<=b/\b+n<=i+fA T i/\b+n<=g.bk.length/\(a:Int)∈(cd g i).next/\(b:Int)∈(cd g i).next/\1<=n:=by
 have hN:=G.n2;have⟨k,j,hkj,hj,ea,eb⟩:=h.idx;have ma:(a:Int)∈(cd g i).next:=by rw[<-ea];exact aJj ay
 have mb:(b:Int)∈(cd g i).next:=by rw[<-eb];exact aJj hj
 have z:=(xR hT hl ay h.ii).2;have⟨a1,a2⟩:=aJl hT hl h.ii ⟨Ag _,ay⟩ h.ii ma;have⟨b1,b2⟩:=aJl hT hl h.ii ⟨Ag _,ay⟩ h.ii mb;have ap:=uQ hT hl h.ii hkj hj ay;rw[ea,eb,Ax,Ax,h.sa] at ap;have hb:=aI3 hT hl h.ii (ay:i<=b) ay ay;rw[h.sb] at hb;have zb:=(xR hT hl ay (ay:b<g.bk.length)).2.1;rw[h.sb] at zb;exact⟨ay,ap,hb,ay,ma,mb,zb⟩
theorem aFt(G:eY g)(hT:fJ g=some T)(hl:T.length=g.bk.length)(hi:i<g.bk.length)(ha:(a:Int)∈(cd g i).next)(hb:(b:Int)∈(cd g i).next):a=b\/a+fA T a<=b\/b+fA T b<=a:=by
 have hN:=G.n2;have⟨k,hk,ek⟩:=Cv.1 ha;have⟨j,hj,ej⟩:=Cv.1 hb;have ek:(cd g i).next.getD k 0=(a:Int):=by rw[Ad,Ac hk];exact ek
 have ej:(cd g i).next.getD j 0=(b:Int):=by rw[Ad,Ac hj];exact ej
 rcases Dt k j with h | h | h
 ·have:=uQ hT hl hi h hj ay;rw[ek,ej,Ax,Ax] at this;exact .inr (.inl this)
 ·subst h;rw[ek] at ej;exact .inl ay
 ·have:=uQ hT hl hi h hk ay;rw[ek,ej,Ax,Ax] at this;exact .inr (.inr this)
theorem aMC(h1:aBV g T i a b n)(h2:aBV g T i c d m)(G:eY g)(hT:fJ g=some T)(hl:T.length=g.bk.length):Few (iP a b n) (iP c d m):=by
 have⟨a1,a2,a3,a4,a5,a6,a7⟩:=h1.facts G hT hl;have⟨c1,c2,c3,c4,c5,c6,c7⟩:=h2.facts G hT hl;have sa:=h1.sa;have sb:=h1.sb;have sc:=h2.sa;have sd:=h2.sb;have ac:=aFt G hT hl h1.ii a5 c5;have ad:=aFt G hT hl h1.ii a5 c6;have bc:=aFt G hT hl h1.ii a6 c5;have bd:=aFt G hT hl h1.ii a6 c6;by_cases e1:a=c
 ·subst e1;obtain rfl:n=m:=by omega
  by_cases e2:b=d
  ·subst e2;exact .inr fun x=>rfl
  ·exact .inr fun x=>aAS ay ay ay
 by_cases e2:b=d
 ·subst e2;obtain rfl:n=m:=by omega
  refine .inr fun x=>?_;have k1:∀y,iP a b n y=iP b a n y:=fun y=>aAo ay;have k2:∀y,iP c b n y=iP b c n y:=fun y=>aAo ay;simp only[k1,k2];exact aAS ay ay ay
 by_cases e3:b=c
 ·subst e3;obtain rfl:n=m:=by omega
  refine .inr fun x=>?_;have k1:∀y,iP a b n y=iP b a n y:=fun y=>aAo ay;simp only[k1];exact aAS ay ay ay
 by_cases e4:a=d
 ·subst e4;obtain rfl:n=m:=by omega
  refine .inr fun x=>?_;have k2:∀y,iP c a n y=iP a c n y:=fun y=>aAo ay;simp only[k2];exact aAS ay ay ay
 exact aEW fun x=>aGV ay ay ay ay ay ay
theorem aMY(hij:i<j)(h1:aBV g T i a b n)(h2:aBV g T j c d m)(G:eY g)(hT:fJ g=some T)(hl:T.length=g.bk.length):Few (iP a b n) (iP c d m):=by
 have⟨a1,a2,a3,a4,a5,a6,a7⟩:=h1.facts G hT hl;have⟨c1,c2,c3,c4,c5,c6,c7⟩:=h2.facts G hT hl;have sa:=h1.sa;have sb:=h1.sb;have hj:=h2.ii;by_cases ka:a<=j/\j<a+n
 ·have:=aI3 hT hl (ay:a<g.bk.length) ka.1 ay hj;exact .inl fun x=>aMR ay ay ay ay
 by_cases kb:b<=j/\j<b+n
 ·have:=aI3 hT hl (ay:b<g.bk.length) kb.1 ay hj;exact .inl fun x=>aLP ay ay ay ay
 have pa:j<a->j+fA T j<=a:=fun h=>by
  rcases Cd a (j+fA T j) with k | k
  ·have:=aJQ hT hl h1.ii hj a5 ay ay;omega
  ·exact k
 have pb:j<b->j+fA T j<=b:=fun h=>by
  rcases Cd b (j+fA T j) with k | k
  ·have:=aJQ hT hl h1.ii hj a6 ay ay;omega
  ·exact k
 have qa:j+fA T j<=a\/a+n<=j:=by
  rcases Cd j a with k | k
  ·exact .inl (pa k)
  ·omega
 have qb:j+fA T j<=b\/b+n<=j:=by
  rcases Cd j b with k | k
  ·exact .inl (pb k)
  ·omega
 exact aEW fun x=>aGV ay ay ay ay ay ay
theorem aOL(h1:aBV g T i a b n)(h2:aBV g T j c d m)(G:eY g)(hT:fJ g=some T)(hl:T.length=g.bk.length):Few (iP a b n) (iP c d m):=by
 rcases Dt i j with h | h | h
 ·exact aMY h h1 h2 G hT hl
 ·subst h;exact aMC h1 h2 G hT hl
 ·exact(aMY h h2 h1 G hT hl).comm
end
theorem aNx{g:bD}{T:List cK}(G:eY g)(hT:fJ g=some T)(hTl:T.length=g.bk.length):∀m∈iG g T g.bk.length,∃i a b n,aBV g T i a b n/\m=sG g.bk.length a b n:=by
 have hJ:∀i k,i<g.bk.length->∀j,j<=(cd g i).next.length->∀m∈jW g T i k j,∃i a b n,aBV g T i a b n/\m=sG g.bk.length a b n:=by
  intro i k hi j
  induction j with
  | zero=>intro _ m hm;cases hm
  | succ j ih=>
   intro hj m hm;rcases Bf.1 hm with h | h
   ·exact ih ay m h
   ·split at h
    ·rename_i hc;have⟨hkj,_,hal,hA⟩:=hc;have⟨c1,c2⟩:=G.kids i hi k ay;have⟨d1,d2⟩:=G.kids i hi j ay;exact⟨i,_,_,_,⟨hi,⟨k,j,hkj,ay,(Dx ay).symm,(Dx ay).symm⟩,rfl,hal.1.symm⟩,Ce.1 h⟩
    ·cases h
 have hK:∀i,i<g.bk.length->∀k,∀m∈nF g T i k,∃i a b n,aBV g T i a b n/\m=sG g.bk.length a b n:=by
  intro i hi k
  induction k with
  | zero=>intro m hm;cases hm
  | succ k ih=>
   intro m hm;rcases Bf.1 hm with h | h
   ·exact ih m h
   ·exact hJ i k hi _ (Ag _) m h
 have hI:∀i,i<=g.bk.length->∀m∈iG g T i,∃i a b n,aBV g T i a b n/\m=sG g.bk.length a b n:=by
  intro i
  induction i with
  | zero=>intro _ m hm;cases hm
  | succ i ih=>
   intro hi m hm;rcases Bf.1 hm with h | h
   ·exact ih ay m h
   ·split at h
    ·exact hK i ay _ m h
    ·cases h
 exact hI _ (Ag _)
end Go.Ev.Gl
namespace Go.Ev.Gl
section
variable {g:bD}{u v w:bu}
structure yB(g:bD)(u:bu):Prop where
 A:gD g u
 I:aHE g u
theorem aIL{N j:Nat}(h:j<N):(eU N).getD j 0=(j:Int):=oG h
theorem aCA{N:Nat}:(eU N).length=N:=by unfold eU;rw[Ay,Dr]
theorem yB.two(h:yB g u)(hw:qH g w):cA (cA w u) u=w:=by
 refine oL (by rw[jH,jH]) fun j hj=>?_;rw[jH,jH,hw.len] at hj;have h1:=hw.at hj;have h2:=h.A.M.at h1.2;rw[kI (by rw[jH,hw.len];exact hj),kI (by rw[hw.len];exact hj),h1.1,Ax,h2.1,Ax,(h.A.M.at h2.2).1,h.I _ h1.2]
theorem yB.sq(h:yB g u):cA u u=eU g.bk.length:=by
 refine oL (by rw[jH,h.A.M.len,aCA]) fun j hj=>?_;rw[jH,h.A.M.len] at hj;have h1:=h.A.M.at hj;rw[kI (by rw[h.A.M.len];exact hj),h1.1,Ax,(h.A.M.at h1.2).1,h.I _ hj,aIL hj]
theorem aG1(h:qH g u):cA (eU g.bk.length) u=u:=by
 refine oL (by rw[jH,h.len,aCA]) fun j hj=>?_;rw[jH,aCA] at hj;rw[kI (by rw[aCA];exact hj),aIL hj,Ax]
theorem aHs(G:eY g)(h:yB g u):gD g (eU g.bk.length):=by
 rw[<-h.sq];exact aBg G h.A h.A
def kC(u v:bu):bt:=[cA u u,u,v,cA u v,cA v u,cA (cA u v) u,cA (cA v u) v,cA (cA (cA u v) u) v]
def aNm(u v:bu):Prop:=cA (cA (cA u v) u) v=cA (cA (cA v u) v) u\/cA (cA u v) u=cA (cA v u) v
theorem aFK(hu:yB g u)(hv:yB g v)(hF:aNm u v)(hw:w∈kC u v):cA w u∈kC u v/\cA w v∈kC u v:=by
 have mu:=hu.A.M;have mv:=hv.A.M;have muv:=jG mu mv;have mvu:=jG mv mu;have muvu:=jG muv mu;have mvuv:=jG mvu mv;have e0:cA v v=cA u u:=by rw[hu.sq,hv.sq]
 have e1:cA (cA u u) u=u:=hu.two mu;have e2:cA (cA u u) v=v:=by rw[<-e0];exact hv.two mv
 have e3:cA (cA u v) v=u:=hv.two mu;have e4:cA (cA v u) u=v:=hu.two mv;have e5:cA (cA (cA u v) u) u=cA u v:=hu.two muv;have e6:cA (cA (cA v u) v) v=cA v u:=hv.two mvu;have e7:cA (cA (cA (cA u v) u) v) v=cA (cA u v) u:=hv.two muvu;have e8:cA (cA (cA (cA v u) v) u) u=cA (cA v u) v:=hu.two mvuv;have M:∀ {x},x∈kC u v↔x=cA u u\/x=u\/x=v\/x=cA u v\/x=cA v u\/x=cA (cA u v) u\/x=cA (cA v u) v\/x=cA (cA (cA u v) u) v:=by
  intro x;unfold kC;simp only[Bm,List.not_mem_nil,or_false]
 rw[M] at hw;rcases hF with hF | hF
 ·rcases hw with rfl | rfl | rfl | rfl | rfl | rfl | rfl | rfl
  ·rw[e1,e2];simp [kC]
  ·simp [kC]
  ·rw[e0];simp [kC]
  ·rw[e3];simp [kC]
  ·rw[e4];simp [kC]
  ·rw[e5];simp [kC]
  ·rw[e6,<-hF];simp [kC]
  ·rw[e7,hF,e8];simp [kC]
 ·have e9:cA (cA (cA u v) u) v=cA v u:=by rw[hF,e6]
  have e10:cA (cA (cA v u) v) u=cA u v:=by rw[<-hF,e5]
  rcases hw with rfl | rfl | rfl | rfl | rfl | rfl | rfl | rfl
  ·rw[e1,e2];simp [kC]
  ·simp [kC]
  ·rw[e0];simp [kC]
  ·rw[e3];simp [kC]
  ·rw[e4];simp [kC]
  ·rw[e5];simp [kC]
  ·rw[e6,e10];simp [kC]
  ·rw[e9,e4];simp [kC]
theorem aKF{a b c d n m:Nat}(h1:a+n<=b)(h2:b+n<=g.bk.length)(h3:c+m<=d)(h4:d+m<=g.bk.length)(hF:Few (iP a b n) (iP c d m)):aNm (sG g.bk.length a b n) (sG g.bk.length c d m):=by
 have M1:=aCK (g:=g) h1 h2;have M2:=aCK (g:=g) h3 h4;have t1:∀x,x<g.bk.length->eR (sG g.bk.length a b n) x=iP a b n x/\iP a b n x<g.bk.length:=fun x hx=>⟨zJ hx,aGc h1 h2 hx⟩;have t2:∀x,x<g.bk.length->eR (sG g.bk.length c d m) x=iP c d m x/\iP c d m x<g.bk.length:=fun x hx=>⟨zJ hx,aGc h3 h4 hx⟩;have P12:=jG M1 M2;have P21:=jG M2 M1;have P121:=jG P12 M1;have P212:=jG P21 M2;have P1212:=jG P121 M2;have P2121:=jG P212 M1;have s12:∀x,x<g.bk.length->eR (cA (cA (sG g.bk.length a b n) (sG g.bk.length c d m)) (sG g.bk.length a b n)) x=iP a b n (iP c d m (iP a b n x)):=fun x hx=>by
  rw[mO P12 hx,mO M1 hx,(t1 x hx).1,(t2 _ (t1 x hx).2).1,(t1 _ (t2 _ (t1 x hx).2).2).1]
 have s21:∀x,x<g.bk.length->eR (cA (cA (sG g.bk.length c d m) (sG g.bk.length a b n)) (sG g.bk.length c d m)) x=iP c d m (iP a b n (iP c d m x)):=fun x hx=>by
  rw[mO P21 hx,mO M2 hx,(t2 x hx).1,(t1 _ (t2 x hx).2).1,(t2 _ (t1 _ (t2 x hx).2).2).1]
 have lt12:∀x,x<g.bk.length->iP a b n (iP c d m (iP a b n x))<g.bk.length:=fun x hx=>(t1 _ (t2 _ (t1 x hx).2).2).2;have lt21:∀x,x<g.bk.length->iP c d m (iP a b n (iP c d m x))<g.bk.length:=fun x hx=>(t2 _ (t1 _ (t2 x hx).2).2).2;rcases hF with hF | hF
 ·refine .inl (aJG P1212.len P2121 fun x hx=>?_);rw[(P1212.at hx).1,mO P121 hx,mO P212 hx,s12 x hx,s21 x hx,(t2 _ (lt12 x hx)).1,(t1 _ (lt21 x hx)).1,<-hF x]
 ·refine .inr (aJG P121.len P212 fun x hx=>?_);rw[(P121.at hx).1,s12 x hx,s21 x hx,hF x]
theorem aH5(hu:yB g u)(hv:yB g v)(hF:aNm u v):∀t,∀w∈cQ (eU g.bk.length) [u,v] t,w∈kC u v
 | 0=>fun w hw=>by
  have:w=eU g.bk.length:=by simpa [cQ] using hw
  rw[this,<-hu.sq];simp [kC]
 | t+1=>fun w hw=>by
  have ih:=aH5 hu hv hF t;rw[lS] at hw;split at hw
  ·rename_i ht;have hc:=aFK hu hv hF (ih _ (uX ht));refine tH (Q:=fun w=>w∈kC u v) ih (fun m hm=>?_) w hw;rcases Bm.1 hm with rfl | hm
   ·exact hc.1
   ·rw[Ce] at hm;subst hm;exact hc.2
  ·exact ih w hw
theorem aJJ(hu:yB g u)(hv:yB g v)(hF:aNm u v)(t:Nat):(cQ (eU g.bk.length) [u,v] t).length<=8:=by
 have h:(kC u v).length=8:=rfl;rw[<-h];exact List.Nodup.length_le_of_subset nB fun w hw=>aH5 hu hv hF t w hw
end
end Go.Ev.Gl
namespace Go.Ev.Gl
section
variable {g:bD}{L:bt}{t i:Nat}
structure Closed(g:bD)(L:bt)(t:Nat):Prop where
 len:t=(cQ (eU g.bk.length) L t).length
 lt:∀s,s<t->s<(cQ (eU g.bk.length) L s).length
theorem aMI{s t:Nat}(h:s<=t){w:bu}(hw:w∈cQ (eU g.bk.length) L s):w∈cQ (eU g.bk.length) L t:=by
 have⟨R,e⟩:=aFw (e:=eU g.bk.length) (L:=L) h;rw[e];exact Dh _ hw
theorem Closed.id(_:Closed g L t):eU g.bk.length∈cQ (eU g.bk.length) L t:=aMI (Da t) (by simp [cQ])
theorem Closed.mul(h:Closed g L t){w m:bu}(hw:w∈cQ (eU g.bk.length) L t)(hm:m∈L):cA w m∈cQ (eU g.bk.length) L t:=by
 obtain⟨s,hs,rfl⟩:=Cv.1 hw;have hst:s<t:=by rw[h.len];exact hs
 have hl:=h.lt s hst;refine aMI (ay:s+1<=t) ?_;rw[lS,if_pos hl];have⟨R,e⟩:=aFw (e:=eU g.bk.length) (L:=L) (ay:s<=t);have h3:(cQ (eU g.bk.length) L t)[s]? =(cQ (eU g.bk.length) L s)[s]? :=by rw[e,Al hl]
 have e2:(cQ (eU g.bk.length) L s).getD s []=(cQ (eU g.bk.length) L t)[s]:=by
  rw[Ad,<-h3,Ac hs];rfl
 rw[e2];exact aFh hm
theorem aCU{e:bu}{Q:bu->Prop}(he:Q e)(hp:∀w m,Q w->m∈L->Q (cA w m)):∀t,∀w∈cQ e L t,Q w
 | 0=>fun w hw=>by
  have:w=e:=by simpa [cQ] using hw
  rw[this];exact he
 | t+1=>fun w hw=>by
  have ih:=aCU he hp t;rw[lS] at hw;split at hw
  ·rename_i ht;exact tH (Q:=Q) ih (fun m hm=>hp _ m (ih _ (uX ht)) hm) w hw
  ·exact ih w hw
theorem aGW(G:eY g)(hid:gD g (eU g.bk.length))(hL:∀m∈L,gD g m)(t:Nat):∀w∈cQ (eU g.bk.length) L t,gD g w:=
 aCU hid (fun _ _ hw hm=>aBg G hw (hL _ hm)) t
theorem aM4(hid:gD g (eU g.bk.length))(G:eY g)(hL:∀m∈L,gD g m)(hi:i<g.bk.length)(t:Nat):∀w∈cQ (eU g.bk.length) L t,tZ (aAw g.bk.length L) i (eR w i):=by
 refine fun w hw=>(aCU (Q:=fun w=>gD g w/\tZ (aAw g.bk.length L) i (eR w i)) ⟨hid,?_⟩ (fun w m hw hm=>⟨aBg G hw.1 (hL m hm),?_⟩) t w hw).2
 ·have e:eR (eU g.bk.length) i=i:=by unfold eR;rw[aIL hi,Ax]
  rw[e];exact .refl i
 ·rw[mO hw.1.M hi];exact .trans hw.2 (.edge ⟨(hw.1.M.at hi).2,m,hm,rfl⟩)
def rH(W:bt)(i k:Nat):Nat:=(W.filter fun w=>decide (eR w i=k)).length
theorem aHR{W:bt}(hnd:W.Nodup){m:bu}{k:Nat}(hi:i<g.bk.length)(hW:∀w∈W,qH g w)(hm:yB g m)(hc:∀w∈W,cA w m∈W):rH W i k<=rH W i (eR m k):=by
 unfold rH;rw[<-Ay (f:=fun w=>cA w m)];refine List.Nodup.length_le_of_subset ?_ fun x hx=>?_
 ·refine List.pairwise_map.2 (List.Pairwise.imp_of_mem ?_ (hnd.filter _));intro a b ha hb hne he;have ha:=hW a (List.mem_filter.1 ha).1;have hb:=hW b (List.mem_filter.1 hb).1;have e1:=hm.two ha;have e2:=hm.two hb;rw[he,e2] at e1;exact hne e1.symm
 ·obtain⟨w,hw,rfl⟩:=Dl.1 hx;have⟨hw,hk⟩:=List.mem_filter.1 hw;refine List.mem_filter.2 ⟨hc w hw,?_⟩;rw[mO (hW w hw) hi,Ef hk];exact Ab rfl
def vE(f:Nat->Nat):Nat->Nat
 | 0=>0
 | n+1=>vE f n+f n
theorem aBD{f:Nat->Nat}:∀ {n:Nat},(∀k,k<n->f k=0)->vE f n=0
 | 0,_=>rfl
 | n+1,h=>by
  show vE f n+f n=0;rw[aBD fun k hk=>h k ay,h n ay]
theorem aH2{f h:Nat->Nat}:∀ {n:Nat},vE (fun k=>f k+h k) n=vE f n+vE h n
 | 0=>rfl
 | n+1=>by
  show vE (fun k=>f k+h k) n+(f n+h n)=(vE f n+f n)+(vE h n+h n);rw[aH2];omega
theorem aHG{x:Nat}:∀ {n:Nat},x<n->vE (fun k=>if x=k then 1 else 0) n=1
 | n+1,h=>by
  show vE (fun k=>if x=k then 1 else 0) n+(if x=n then 1 else 0)=1;by_cases e:x=n
  ·rw[if_pos e,aBD fun k hk=>if_neg ay]
  ·rw[if_neg e,aHG ay]
theorem aGO{f h:Nat->Nat}:∀ {n:Nat},(∀k,k<n->f k=h k)->vE f n=vE h n
 | 0,_=>rfl
 | n+1,e=>by
  show vE f n+f n=vE h n+h n;rw[aGO fun k hk=>e k ay,e n ay]
theorem aEF{n:Nat}:∀ {W:bt},(∀w∈W,eR w i<n)->vE (rH W i) n=W.length
 | [],_=>aBD fun _ _=>rfl
 | w::W,h=>by
  have ih:=aEF (n:=n) fun x hx=>h x (Bj _ hx);have e:∀k,rH (w::W) i k=(if eR w i=k then 1 else 0)+rH W i k:=fun k=>by
   unfold rH;rw[List.filter_cons];by_cases c:eR w i=k
   ·rw[if_pos (Ab c),if_pos c,Aw];omega
   ·rw[if_neg (by rw[Aa c];exact Bool.false_ne_true),if_neg c];omega
  rw[aGO fun k _=>e k,aH2,aHG (h w (Br ..)),ih,Aw];omega
def fB(l:bu)(x:Int):Nat->Nat
 | 0=>0
 | n+1=>fB l x n+if l.getD n 0=x then 1 else 0
theorem aJu{l:bu}{x:Int}:∀ {n:Nat},fB l x n<=n
 | 0=>Ag _
 | n+1=>by
  have:=aJu (l:=l) (x:=x) (n:=n);show fB l x n+(if _ then 1 else 0)<=n+1;split<;>omega
theorem aGY{l:bu}{k:Nat}:∀ {n:Nat},k<n->0<fB l (l.getD k 0) n
 | n+1,h=>by
  show 0<fB l _ n+(if _ then 1 else 0);by_cases e:k=n
  ·subst e;rw[if_pos rfl];omega
  ·have:=aGY (l:=l) (k:=k) (n:=n) ay;omega
theorem aG5{l:bu}{x:Int}{c:Nat}{f:Nat->Nat}:∀ {n:Nat},(∀k,k<n->l.getD k 0=x->f k=c)->(∀k,k<n->l.getD k 0≠x->f k=0)->vE f n=fB l x n * c
 | 0,_,_=>by show 0=0 * c;omega
 | n+1,h1,h2=>by
  show vE f n+f n=(fB l x n+if l.getD n 0=x then 1 else 0) * c;rw[aG5 (fun k hk=>h1 k ay) fun k hk=>h2 k ay];by_cases e:l.getD n 0=x
  ·rw[if_pos e,h1 n ay e,Cm]
  ·rw[if_neg e,h2 n ay e,Bh,Bh]
theorem aNu(G:eY g)(hL:∀m∈L,yB g m)(hne:L≠ [])(hC:Closed g L t){O:bu}(hO:aKL g.bk.length (aAw g.bk.length L) O)(hi:i<g.bk.length):∃c,(cQ (eU g.bk.length) L t).length=fB O (O.getD i 0) g.bk.length * c:=by
 have⟨m0,hm0⟩:=List.exists_mem_of_ne_nil _ hne;have hid:=aHs G (hL m0 hm0);have hA:=fun m hm=>(hL m hm).A;have hW:=fun w hw=>(aGW G hid hA t w hw).M;refine⟨rH (cQ (eU g.bk.length) L t) i i,?_⟩;rw[<-aEF (n:=g.bk.length) (i:=i) fun w hw=>((hW w hw).at hi).2];have hE:∀x y,aAw g.bk.length L x y->((rH (cQ (eU g.bk.length) L t) i x:Nat):Int)=((rH (cQ (eU g.bk.length) L t) i y:Nat):Int):=by
  rintro x y ⟨hx,m,hm,rfl⟩;have h1:=aHR (i:=i) (k:=x) nB hi hW (hL m hm) fun w hw=>hC.mul hw hm;have h2:=aHR (i:=i) (k:=eR m x) nB hi hW (hL m hm) fun w hw=>hC.mul hw hm;rw[(hL m hm).I x hx] at h2;unfold eR at h1 h2;omega
 refine aG5 (fun k hk e=>?_) fun k hk e=>?_
 ·have h1:=hO.con i hi;have h2:=hO.con k hk;rw[e] at h2;have:=aJP (f:=fun x=>((rH (cQ (eU g.bk.length) L t) i x:Nat):Int)) hE (tZ.trans h2 (tZ.symm h1));have:((rH (cQ (eU g.bk.length) L t) i k:Nat):Int)=((rH (cQ (eU g.bk.length) L t) i i:Nat):Int):=this;omega
 ·rcases Bk (rH (cQ (eU g.bk.length) L t) i k) with h | h
  ·exact h
  ·have⟨w,hw⟩:=List.exists_mem_of_length_pos h;have⟨hw,hk⟩:=List.mem_filter.1 hw;have hc:=aM4 hid G hA hi t w hw;rw[Ef hk] at hc;have:=aJP (f:=fun x=>O.getD x 0) hO.inv hc;exact absurd this.symm e
end
variable {fns:T dU}
def SwM(g:bD)(m:bu):Prop:=(gD g m/\aHE g m)/\∃T,fJ g=some T/\T.length=g.bk.length/\∃i a b n,aBV g T i a b n/\m=sG g.bk.length a b n
theorem aOK{g:bD}{u v:bu}(G:eY g)(hu:SwM g u)(hv:SwM g v):aNm u v:=by
 obtain⟨_,T,h1,h2,i,a,b,n,h3,rfl⟩:=hu;obtain⟨_,T',k1,k2,j,c,d,m,k3,rfl⟩:=hv;rw[h1] at k1;cases k1;have⟨_,a2,_,a4,_⟩:=h3.facts G h1 h2;have⟨_,c2,_,c4,_⟩:=k3.facts G h1 h2;exact aKF a2 a4 c2 c4 (aOL h3 k3 G h1 h2)
def aPx(r:AV)(Z:St):Prop:=∃ (g:bD) (nv iv v:AV) (L:bt),r= .tup [.agg [.int .i64 g.bo,nv,iv],v,.bool true]/\dB g=0/\aP 6 cI Z nv g.bk/\aP 2 cW Z iv g.bn/\aP 1 pF Z v L/\1<=L.length/\L.length<=5/\(∀m∈L,SwM g m)/\g.bk.length<=30/\∀x∈g.bk,jQ g.bo g.bn x
theorem aGq{S:St}{lv:AV}{dl:bu}{p c:Int}{seen:Bool}(H:Has fns)(hl:bO .i64 S lv dl)(hbd:dl.length<=140737488355328):
  gH fns (.fn 14 [] []) [lv,.int .i64 p,.int .i64 c,.bool seen] S fun r Z=>Same S Z/\aPx r Z:=by
 refine cF H.f14 (by simp) ?_;refine af ?_;refine bQ ?_;refine dC ?_;intro S1 s1 n1 g1;refine aq ?_;refine bQ (aq ?_);refine bE (aq ?_);refine aQ (tF H (n:=3) bg bg) ?_;rintro _ S2 ⟨s2,y,rfl,y1,y2⟩;have w1:IntKind.i64.wrap (1+y)=1+y:=wrap_i64 ay ay;refine dz w1 ?_;refine bE (aq ?_);refine aQ (tF H (n:=2) bg bg) ?_;rintro _ S3 ⟨s3,z,rfl,z1,z2⟩;have w2:IntKind.i64.wrap (2+z)=((2+z.toNat:Nat):Int):=by rw[wrap_i64 ay ay];omega
 refine dz w2 ?_;have hcp:2<=2+z.toNat/\2+z.toNat<=3:=by omega
 have s13:Same S S3:=(s1.trans s2).trans s3;refine bE (aq ?_);refine aQ (aHb (cp:=2+z.toNat) (seen:=seen) H (hl.same s13) hbd ay ay ay) ?_;rintro _ S4 ⟨s4,one,nv,iv,hone,hps,hol,rfl,hn,hi,hfr⟩;obtain⟨g,hg⟩:∃g:bD,g=dT one (2+z.toNat) seen:=⟨_,rfl⟩;have hform:dB g=0:=by rw[hg];exact(aBW hone ay).1
 have hokn:∀x∈g.bk,jQ g.bo g.bn x:=by rw[hg];exact(aBW hone ay).2
 have hg30:g.bk.length<=30:=by
  rw[hg,oS];obtain hz | hz:z.toNat=0\/z.toNat=1:=by omega
  ·rw[hz] at hol ⊢;have e:mx 1 ((30 - 1) / ((2+0:Nat):Int))=14:=by decide
   have:one.bk.length<=14:=by omega
   omega
  ·rw[hz] at hol ⊢;have e:mx 1 ((30 - 1) / ((2+1:Nat):Int))=9:=by decide
   have:one.bk.length<=9:=by omega
   omega
 have hgp:g.bo=1+y:=by rw[hg,<-hps];rfl
 rw[<-hg] at hn hi hfr;rw[<-hgp];have G:=iR hform;refine dC ?_;intro S5 s5 n5 g5;refine eS (b:=S4.nx) (ar) (by refine aq ?_;exact bL _) g5 rfl rfl ?_;intro S6 v6 k6 g6;refine aq ?_;have s6:Same S4 S6:=v6.same s5 (Ag _);have m4:=s4.1;have m13:=s13.1;have m6:=s6.1;have gr6:S6.h.get S.nx=some (.cells [.int .i64 0,.cb,.cb] false 0):=(s6.2 _ (by have:=s2.1;have:=s3.1;omega)).trans ((s4.2 _ (by have:=s2.1;have:=s3.1;omega)).trans ((s3.2 _ (az s2.1)).trans ((s2.2 _ ay).trans g1)));have lr6:S.nx<S6.nx:=by have:=s2.1;have:=s3.1;omega
 have l6:S4.nx<S6.nx:=by omega
 have sS6:=(s13.trans s4).trans s6;have hn6:=aP.same (E:=cI) bT hn s6;have hi6:=aP.same (E:=cW) cM hi s6;clear v6 g5 s5 k6 n5 g1 hn hi;have lag6:=iT g6;refine bQ (cm lag6 ?_);refine bE (af ?_);refine aQ (aIb H hn6 hi6 (az G.n2)) ?_;rintro _ S7 ⟨s7,v,rfl,_,hv⟩;have⟨T,hT,hTl,hL,hLf⟩:=hv hform;have hne:1<=(iG g T g.bk.length).length:=by
  subst hg;exact aNy hone hcp hT
 have hall:∀m∈iG g T g.bk.length,SwM g m:=fun m hm=>⟨aMk G hT hTl m hm,T,hT,hTl,aNx G hT hTl m hm⟩;obtain⟨L,hLe⟩:∃L:bt,L=iG g T g.bk.length:=⟨_,rfl⟩;rw[<-hLe] at hL hne hall hLf;clear hLe;have lvn:=aP.len hL;rw[hform];refine df @ex0 @ex1 ?_;refine fE (cm lvn ?_);refine aK (by simp only[↓sU,sD,rE,↓reduceIte,rA,Aa (ay:¬ (L.length:Int)<1)];try rfl) (aH ?_);refine af ?_;have g7:=(s7.2 _ l6).trans g6;have lag7:=iT g7;have gr7:=(s7.2 _ lr6).trans gr6;have hn7:=aP.same (E:=cI) bT hn6 s7;have hi7:=aP.same (E:=cW) cM hi6 s7;have sS7:=sS6.trans s7;refine aA (aW (Q:=fun o A Z=>o= .normal/\Z=S7/\A.inr=false/\aD 8 A.F= .ptr S.nx 0/\aD 11 A.F= .ptr S4.nx 0/\∃ (v':AV) (L':bt),aD 12 A.F=v'/\(∀X':St,S7.nx<=X'.nx->(∀c,c<S7.nx->S6.nx<=c->X'.h.get c=S7.h.get c)->aP 1 pF X' v' L')/\1<=L'.length/\L'.length<=5/\∀m∈L',SwM g m) (aA (aG ?_)) ?_)
 ·refine cm lvn ?_;by_cases h5:L.length>5
  ·refine aM fe ?_;have⟨v',e1,e2⟩:=aP.head hL (n:=5) h5;have e3:∀X':St,S7.nx<=X'.nx->(∀c,c<S7.nx->S6.nx<=c->X'.h.get c=S7.h.get c)->aP 1 pF X' v' (L.take 5):=fun X' a b=>by
    have⟨v2,e4,e5⟩:=aP.head (hLf X' a b) (n:=5) h5;have:=(e1 Ev.T.e (.c (.int .i64 5)) rfl).symm.trans (e4 Ev.T.e (.c (.int .i64 5)) rfl);cases this;exact e5
   have hs:∀F:Fr,rQ (.slice 1) v none (some (.c (.int .i64 5))) none F=some v':=fun F=>e1 F _ rfl;refine aG (df @aAm hs ?_);refine⟨v',L.take 5,by trivial,e3,by rw[Bp];omega,by rw[Bp];omega,fun m hm=>hall m (Eb hm)⟩
  ·refine aK fe (aH ?_);refine af ?_;refine⟨v,L,by trivial,hLf,hne,ay,hall⟩
 rintro o' ⟨F,inr⟩ Zx ⟨rfl,e7,q0,p8,p11,v',L',p12,hL',l1,l5,hall'⟩;simp only at q0 p8 p11 p12;subst q0;rw[e7];refine bQ (dk p11 p12 p8 lag7 ?_);refine eS (b:=S.nx) (ai p8) (by refine af ?_;exact bL _) gr7 rfl rfl ?_;intro Z z1 z2 z3;have lagZ:=iT z3;refine af ?_;refine aR (dh @gF p8 lagZ ?_);have kZ:∀b,b<S7.nx->b≠S.nx->Z.h.get b=S7.h.get b:=fun b hb hne=>z1.2 b hb hne;have nZ:=z1.1;have m7:=s7.1;have⟨hnZ,hiZ⟩:=hfr Z ay fun b hb hlt=>(kZ b ay (by have:=s2.1;have:=s3.1;omega)).trans ((s7.2 b ay).trans (s6.2 b hb));exact⟨z1.same sS7 (Ag _),g,nv,iv,v',L',rfl,hform,hnZ,hiZ,hL' Z nZ fun b hb hlt=>kZ b hb ay,l1,l5,hall',hg30,hokn⟩
def aSW(S:St)(wv mv:AV)(W:bt)(m:bu)(k:Nat)(A:bS)(X:St):Prop:=A.inr=false/\Same S X/\∃i:Nat,i+k=W.length/\(∀j,j<i->W.getD j []≠m)/\aD 0 A.F=wv/\aD 1 A.F=mv/\aD 5 A.F= .int .i64 (i:Int)
theorem vO{S:St}{wv mv:AV}{W:bt}{m:bu}(H:Has fns)(hW:aP 1 pF S wv W)(hm:bO .i64 S mv m)(hmem:m∈W)(hl:W.length<=10000000)(hll:∀x∈W,x.length<=10000000):
  gH fns (.fn 18 [] []) [wv,mv] S fun r S'=>r= .bool true/\Same S S':=by
 refine cF H.f18 (by simp) ?_;refine af ?_;refine bQ (af ?_);refine fE (af ?_);refine aW (Q:=fun o A' X=>o= .ret/\Same S X/\aD 4 A'.F= .bool true) (aL (bK (aSW S wv mv W m) ?_ W.length _ _ ⟨rfl,de _,0,ay,fun j hj=>absurd hj (Cf _),ag,ag,ah⟩)) ?_;rotate_left
 ·rintro o ⟨F,inr⟩ X ⟨rfl,hX,p4⟩;simp only at p4;refine cm p4 ?_;exact hX
 rintro k ⟨F,inr⟩ X ⟨q0,hX,i,hik,hne,p0,p1,p5⟩;simp only at q0 p0 p1 p5;subst q0;refine fE (dk p0 p5 hW.len @Ah ?_);by_cases hlt:i<W.length;rotate_left
 ·have⟨j,hj,e⟩:=Cv.1 hmem;refine absurd ?_ (hne j ay);rw[Ad,Ac hj];exact e
 refine aM fe (aH ?_);refine af ?_;have w1:=dc i
 have⟨xb,xq,a,xi,xs,xlt,xl⟩:=jX hW hlt;have xl:=xl X hX;have sa:=bO.self xs;refine aA (aL (aA (aG ?_)));refine ec p0 p1 p5 @aJ xi xl ?_;refine bE (aq ?_);refine aQ (oW H (xs.same hX) (hm.same hX) (hll _ (uX hlt))) ?_;rintro _ Y ⟨rfl,hY⟩;by_cases e:W.getD i []=m
 ·refine aM (fg (Ab e)) ?_;refine bQ (af ?_);refine aR (af ?_);exact hX.trans hY
 ·refine aK (fg (Aa e)) (aH ?_);refine af ?_;refine aG (df p5 w1 ?_);exact⟨k - 1,ay,rfl,hX.trans hY,i+1,ay,fun j hj=>by
   rcases Cd j i with h | h
   ·exact hne j h
   ·rw[show j=i by omega];exact e,by refine⟨?_,?_,?_⟩<;>simp only[↓sU,sD,rE,↓reduceIte,rA,p0,p1]⟩
theorem aKb{t:Nat}{z r s:AV}{x y:cU}{F:Fr}{id:Nat}{S:St}{l m:bu}(h:bO .i64 S r l)(h':bO .i64 S s m)(hx:x.val F=r)(hy:y.val F=s):sH (.ch t 1 2 [z] [(0,x),(1,y)]) F id=some (.sl id 0 2 2 false,.cells [r,s] false 0):=by
 show(bH (eZ (repeatL [z] 2) [(0 * 1,1,x.val F),(1 * 1,1,y.val F)]) fun cs=>some (AV.sl id 0 2 2 false,AB.cells cs false 0))=_;rw[hx,hy];rcases h with⟨_,rfl | rfl⟩ | ⟨b,off,cap,o,cs,rfl,_⟩<;>rcases h' with⟨_,rfl | rfl⟩ | ⟨b,off,cap,o,cs,rfl,_⟩<;>rfl
theorem aMp{S:St}{b:Nat}{r s:AV}{l m:bu}(hb:b<S.nx)(hg:S.h.get b=some (.cells [r,s] false 0))(h:bO .i64 S r l)(h':bO .i64 S s m):aP 1 pF S (.sl b 0 2 2 false) [l,m]:=by
 refine .inr ⟨b,0,2,false,[r,s],rfl,Ag _,hb,by unfold cJ;rw[hg];rfl,fun i a hi=>?_⟩
 match i,hi with
 | 0,hi=>cases hi;exact⟨[r],rfl,fun q w hq=>by match q,hq with | 0,hq=>cases hq;rfl,r,rfl,h⟩
 | 1,hi=>cases hi;exact⟨[s],rfl,fun q w hq=>by match q,hq with | 0,hq=>cases hq;rfl,s,rfl,h'⟩
 | i+2,hi=>simp at hi
end Go.Ev.Gl
namespace Go.Ev.Gl
open Go.Sort
variable {fns:T dU}
structure CtS(g:bD)(u v:bu)(W:bt)(O O2:bu):Prop where
 hf:dB g=0
 n30:g.bk.length<=30
 hu:gD g u
 hv:gD g v
 nd:∀i,i+1<W.length->W.getD (i+1) []≠W.getD i []
 au:∀w∈W,gD g w
 mu:∀w∈W,cA w u∈W
 u1:u∈W
 v1:v∈W
 w8:W.length<=8
 w1:1<=W.length
 oo:aKL g.bk.length (aAw g.bk.length [u,v]) O
 ct:∀i,i<g.bk.length->∃c,W.length=fB O (O.getD i 0) g.bk.length * c
theorem aG9{g:bD}{u v:bu}(hf:dB g=0)(hu:gD g u)(hv:gD g v):jE g [u,v]=0:=by
 unfold jE;rw[if_neg (fun e=>e hf),if_neg (by show ¬16<2;omega)];have e:∀ {m:bu},gD g m->iF g.bk.length m (iB g m)=0:=fun h=>h.e;simp only[kD,e hu,e hv];rfl
theorem aP4{g:bD}{u v:bu}{O O2:bu}{W:bt}{er:Int}(hf:dB g=0)(h30:g.bk.length<=30)(hu:SwM g u)(hv:SwM g v)(hO:aQ2 g [u,v] O O2)(hG:aOZ g [u,v] W er):er=0/\CtS g u v W O O2:=by
 have G:=iR hf;have Hu:yB g u:=⟨hu.1.1,hu.1.2⟩;have Hv:yB g v:=⟨hv.1.1,hv.1.2⟩;have hF:=aOK G hu hv;have h0:=aG9 hf hu.1.1 hv.1.1;have hid:=aHs G Hu;have hL:∀m∈ [u,v],yB g m:=fun m hm=>by
  rcases Bm.1 hm with rfl | hm
  ·exact Hu
  ·rw[Ce] at hm;subst hm;exact Hv
 rcases hO with⟨h,_⟩ | ⟨_,hO,_⟩
 ·exact absurd h0 h
 rcases hG with⟨h,_⟩ | ⟨_,hE,_⟩ | ⟨_,W0,hE,hp,hs,rfl⟩
 ·exact absurd h0 h
 ·rcases hE with⟨t,e,_⟩ | ⟨_,t,_,hM⟩
  ·cases e
  ·have:=aJJ Hu Hv hF (t+1);omega
 rcases hE with⟨t,e,e1,l1,_⟩ | ⟨e,_⟩
 rotate_left
 ·cases e
 cases e;have hC:Closed g [u,v] t:=⟨e1,l1⟩;have mem:∀ {w},w∈W↔w∈cQ (eU g.bk.length) [u,v] t:=fun {w}=>hp.mem_iff;have h8:=aJJ Hu Hv hF t;refine⟨rfl,hf,h30,hu.1.1,hv.1.1,fun i hi e=>?_,fun w hw=>aGW G hid (fun m hm=>(hL m hm).A) t w (mem.1 hw),fun w hw=>mem.2 (hC.mul (mem.1 hw) (by simp)),?_,?_,by rw[hp.length_eq];exact h8,?_,hO,fun i hi=>by rw[hp.length_eq];exact aNu G hL (by simp) hC hO hi⟩
 ·have:=Dw.1 hs i (i+1) ay hi ay;rw[Ad,Ac hi,Ad,Ac (ay:i<W.length)] at e;have e:W[i+1]=W[i]:=e;rw[e] at this;exact oJ this
 ·rw[<-aG1 Hu.A.M];exact mem.2 (hC.mul hC.id (by simp))
 ·rw[<-aG1 Hv.A.M];exact mem.2 (hC.mul hC.id (by simp))
 ·have:=List.length_pos_of_mem (mem.2 hC.id);omega
def CtA(S:St)(v14 v17 v19:AV)(gb n:Nat)(k:Nat)(A:bS)(X:St):Prop:=A.inr=false/\Same S X/\∃i:Nat,i+k=n/\aD 11 A.F= .ptr gb 0/\aD 14 A.F=v14/\aD 17 A.F=v17/\aD 19 A.F=v19/\aD 22 A.F= .int .i64 (i:Int)
def CtO(S:St)(v17 v19:AV)(n:Nat)(k:Nat)(A:bS)(X:St):Prop:=A.inr=false/\Same S X/\∃i:Nat,i+k=n/\aD 17 A.F=v17/\aD 19 A.F=v19/\aD 25 A.F= .int .i64 (i:Int)
def CtN(S:St)(v17 v19:AV)(O:bu)(i n:Nat)(k:Nat)(A:bS)(X:St):Prop:=A.inr=false/\Same S X/\∃q:Nat,q+k=n/\aD 17 A.F=v17/\aD 19 A.F=v19/\aD 25 A.F= .int .i64 (i:Int)/\aD 26 A.F= .int .i64 ((fB O (O.getD i 0) q:Nat):Int)/\aD 27 A.F= .int .i64 (q:Int)
theorem aFM{S:St}{lv:AV}{dl:bu}{p c i0 i1:Int}{seen:Bool}(H:Has fns)(hAw:∀S,gH fns (.fn 5 [] []) [] S fun r S'=>r= .bool true/\Same S S')(hl:bO .i64 S lv dl)(hlb:dl.length<=140737488355328):
  gH fns (.fn 4 [] []) [lv,.int .i64 p,.int .i64 c,.bool seen,.agg [.int .i64 i0,.int .i64 i1]] S fun r S'=>r= .bool true/\Same S S':=by
 refine cF H.f4 (by simp) ?_;refine af ?_;refine bQ ?_;refine dV (cs:=[.int .i64 i0,.int .i64 i1]) rfl ?_;intro S1 s1 n1 g1;refine af ?_;refine fE (af ?_);refine bE (af ?_);refine aQ (hAw S1) ?_;rintro _ S2 ⟨rfl,s2⟩;simp only[↓sU,sD,rE,↓reduceIte,rA,eF,Bt];refine aK (ag) (aH ?_);refine af ?_;have s12:=s1.trans s2;have hl2:=hl.same s12;refine fE ?_;simp only[↓sU,sD,rE,↓reduceIte,rA,hl2.len,Ah];by_cases h80:dl.length>80
 ·refine aM (by simp only[↓sU,sD,rE,↓reduceIte,rA,Ab (show(dl.length:Int)>80 by omega)]) ?_;refine bQ (af ?_);refine aR (af ?_);exact s12
 refine aK (by simp only[↓sU,sD,rE,↓reduceIte,rA,Aa (show ¬ (dl.length:Int)>80 by omega)]) (aH ?_);refine af ?_;have ex2:∀ {a b c:AV},jU (.tup [a,b,c]) 2=some c:=rfl;refine bQ (aq ?_);refine bE (aq ?_);refine aQ (aGq (p:=p) (c:=c) (seen:=seen) H hl2 hlb) ?_;rintro _ S3 ⟨s3,g,nv,iv,v,L,rfl,hf,hn,hi,hL,l1,l5,hall,h30,_⟩;simp only[↓aC,aB,rE,↓reduceIte,rA,ex0,ex1,ex2];refine dC ?_;intro S4 s4 n4 g4;refine eS (b:=S3.nx) (ar) (by refine aq ?_;exact bL _) g4 rfl rfl ?_;intro S5 v5 k5 g5;refine aq ?_;have s35:Same S3 S5:=v5.same s4 (Ag _);have m3:=s3.1;have m2:=s2.1;have m5:=s35.1;have G:=iR hf;have sS5:=(s12.trans s3).trans s35;have hn5:=aP.same (E:=cI) bT hn s35;have hi5:=aP.same (E:=cW) cM hi s35;have hL5:=aP.same (E:=pF) gL hL s35;have l9:S.nx<S5.nx:=by omega
 have l11:S3.nx<S5.nx:=by omega
 have g9:S5.h.get S.nx=some (.cells [.int .i64 i0,.int .i64 i1] false 0):=(s35.2 _ ay).trans ((s3.2 _ ay).trans ((s2.2 _ ay).trans g1));clear v5 g4 s4 k5 n4 hn hi hL g1;refine fE ?_;simp only[↓sU,sD,rE,↓reduceIte,rA,eF,Bt];refine aK (ag) (aH ?_);refine af ?_;have lvn:=aP.len hL5;have ia0:fC (.arr 2 1) (.ptr S.nx 0) 0=some (.ptr S.nx 0):=rfl;have ia1:fC (.arr 2 1) (.ptr S.nx 0) 1=some (.ptr S.nx 1):=rfl;have ld0:eQ (.ptr S.nx 0) false 1 S5.h=some (.int .i64 i0):=cV (p:=0) g9 rfl;have ld1:eQ (.ptr S.nx 1) false 1 S5.h=some (.int .i64 i1):=cV (p:=1) g9 rfl;have aAX:fG (.int .i64 0)=some 0:=rfl;have nat1:fG (.int .i64 1)=some 1:=rfl;refine aA (qZ (fun _=>False) ?_);simp only[↓sU,sD,rE,↓reduceIte,rA,ia0,ia1,ld0,ld1,l9,Ap,aAX,nat1,lvn,eM];generalize hX0:(⟨S5.h,_⟩:St)=X0;have x0:Same S5 X0:=by rw[<-hX0];exact Same.nx S5 _
 have n0:S5.nx+18<=X0.nx:=by rw[<-hX0];exact Ag _
 clear hX0;refine cL rfl ?_;refine af ?_;refine aQ (tF H (n:=(L.length:Int)) ay ay) ?_;rintro _ X1 ⟨x1,y,rfl,ya,yb⟩;obtain⟨ka,rfl⟩:∃k:Nat,y=(k:Int):=⟨y.toNat,ay⟩;obtain⟨_,b1,q1,ja1,lb1,_,⟨a1,rfl,h1⟩,_,hf1⟩:=aP.at hL5 bg (Ac (show ka<L.length by omega));have la1:=hf1 0 a1 rfl;rw[Bh] at la1;have sa1:=bO.self h1;have A:=hall _ (Bo (show ka<L.length by omega));refine⟨x1,?_⟩;simp only[↓sU,sD,rE,↓reduceIte,rA,ia0,ia1,ld0,ld1,l9,Ap,aAX,nat1,lvn,eM,aJ,ja1,la1,sa1,lb1];refine cL rfl ?_;refine af ?_;refine aQ (tF H (n:=(L.length:Int)) ay ay) ?_;rintro _ X2 ⟨x2,y,rfl,yc,yd⟩;obtain⟨kb,rfl⟩:∃k:Nat,y=(k:Int):=⟨y.toNat,ay⟩;obtain⟨_,b2,q2,ja2,lb2,_,⟨a2,rfl,h2⟩,_,hf2⟩:=aP.at hL5 bg (Ac (show kb<L.length by omega));have la2:=hf2 0 a2 rfl;rw[Bh] at la2;have sa2:=bO.self h2;have B:=hall _ (Bo (show kb<L.length by omega));refine⟨x2,?_⟩;have he:=fun(F:Fr) (id:Nat) (e1:aD 51 F=a1) (e2:aD 59 F=a2)=>aKb (t:=31) (z:=.cb) (x:=.t 51) (y:=.t 59) (F:=F) (id:=id) h1 h2 e1 e2;simp only[↓sU,sD,rE,↓reduceIte,rA,ia0,ia1,ld0,ld1,l9,Ap,aAX,nat1,lvn,eM,aJ,ja2,la2,sa2,lb2,he];rw[cS (show Nat.testBit (2 ^ 18 - 1) 16=true by decide)];obtain⟨Y,hY⟩:∃Y:St,Y=⟨X2.h.set (S5.nx+16) (some (.cells [a1,a2] false 0)),X2.nx⟩:=⟨_,rfl⟩;rw[show(⟨(([]:List iH),X2.h.set (S5.nx+16) (some (.cells [a1,a2] false 0))).2,X2.nx⟩:St)=Y from hY.symm];have x1n:X0.nx<=X1.nx:=x1.1;have x2n:X1.nx<=X2.nx:=x2.1;have nY:Y.nx=X2.nx:=by rw[hY]
 have sY:Same S5 Y:=⟨ay,fun c hc=>by
  rw[hY];simp only;rw[dd,if_neg ay];exact((x0.trans x1).trans x2).2 c hc⟩
 have gY:Y.h.get (S5.nx+16)=some (.cells [a1,a2] false 0):=by rw[hY];simp only;rw[dd,if_pos rfl]
 have hm:aP 1 pF Y (.sl (S5.nx+16) 0 2 2 false) [L[ka],L[kb]]:=aMp ay gY (h1.same sY) (h2.same sY);generalize L[ka]=u at h1 A hm;generalize L[kb]=w at h2 B hm;generalize (AV.sl (S5.nx+16) 0 2 2 false)=mv at hm ⊢;have hnY:=aP.same (E:=cI) bT hn5 sY;have hiY:=aP.same (E:=cW) cM hi5 sY;have g11:=(sY.2 _ l11).trans g5;have lY:S3.nx<Y.nx:=by omega
 have s0Y:=sS5.trans sY;generalize S3.nx=gb at g11 lY ⊢;clear hY gY nY x1n x2n n0 x0 x1 x2 he h1 h2 ld0 ld1 ia0 ia1 la1 la2 ja1 ja2 lb1 lb2 hf1 hf2 g9 g5 sa1 sa2 hL5 hn5 hi5 lvn l9 sY sS5;refine bQ ?_;simp only[↓aC,aB,rE,↓reduceIte,rA,iT g11];refine bE (aq ?_);refine aQ (aH8 H hnY hiY ay hm) ?_;rintro _ Y1 ⟨y1,hG⟩;obtain⟨w1,W,er,rfl,j1,G1⟩:=aEG hG;simp only[↓sU,sD,rE,↓reduceIte,rA,ex0,ex1];have hwl:=j1.len;have g12:=(y1.2 _ lY).trans g11;have l12:=Ae lY y1.1;refine fE ?_;simp only[↓sU,sD,rE,↓reduceIte,rA,hwl,Ah];by_cases h60:60<W.length
 ·refine aM (by simp only[↓sU,sD,rE,↓reduceIte,rA,Ab (show(W.length:Int)>60 by omega)]) ?_;refine bQ (af ?_);refine aR (af ?_);exact s0Y.trans y1
 refine aK (by simp only[↓sU,sD,rE,↓reduceIte,rA,Aa (show ¬ (W.length:Int)>60 by omega)]) (aH ?_);refine af ?_;refine bQ ?_;simp only[↓aC,aB,rE,↓reduceIte,rA,iT g12];refine bE (aq ?_);refine aQ (aG7 H (aP.same (E:=cI) bT hnY y1) (aP.same (E:=cW) cM hiY y1) ay (aP.same (E:=pF) gL hm y1)) ?_;rintro _ Y2 ⟨y2,hG2⟩;obtain⟨wv,W2,er2,rfl,j2,G2⟩:=aEG hG2;obtain⟨rfl,rfl⟩:=aMF G1 G2;simp only[↓sU,sD,rE,↓reduceIte,rA,ex0,ex1];have g13:=(y2.2 _ l12).trans g12;have l13:=Ae l12 y2.1;have sY2:=y1.trans y2;refine bQ ?_;simp only[↓aC,aB,rE,↓reduceIte,rA,iT g13];refine bE (aq ?_);refine aQ (aFv H (aP.same (E:=cI) bT hnY sY2) (aP.same (E:=cW) cM hiY sY2) ay (aP.same (E:=pF) gL hm sY2)) ?_;rintro _ Z ⟨z1,ov,ov2,rfl,o1,o2⟩;obtain⟨O,O2,OV,io,_⟩:=aKK o1 o2;obtain⟨rfl,C⟩:=aP4 hf h30 A B OV G1;have h0:=aG9 hf A.1.1 B.1.1;rw[h0];simp only[↓sU,sD,rE,↓reduceIte,rA,ex0,ex1,ex2];have gZ:=(z1.2 _ l13).trans g13;have lZ:=Ae l13 z1.1;have sYZ:=sY2.trans z1;have s0Z:=s0Y.trans sYZ;have hnZ:=aP.same (E:=cI) bT hnY sYZ;have hiZ:=aP.same (E:=cW) cM hiY sYZ;have hmZ:=aP.same (E:=pF) gL hm sYZ;have jZ:=aP.same (E:=pF) gL j2 z1;clear hG hG2 o1 o2 OV G1 j1 hm hnY hiY g11 g12 g13 l12 l13 lY sY2 y1 y2 z1 sYZ s0Y hall j2 hwl hl2;have hol:=C.oo.len;have hw1:=C.w1;have hw8:=C.w8;refine fE ?_;simp only[↓sU,sD,rE,↓reduceIte,rA,Aa (show ¬ (0:Int)≠0 by decide),jZ.len,io.len,aF,aE,gI gZ,hnZ.len,hol,Ah,Aa (show ¬ (W.length:Int)=0 by omega),Aa (show ¬ (g.bk.length:Int)≠(g.bk.length:Int) from fun h=>h rfl)];refine aK (ag) (aH ?_);refine af ?_;refine fE (af ?_);have snv:=aP.self hnZ;have siv:=aP.self hiZ;have sag:cT (.agg [.int .i64 g.bo,nv,iv]) (.agg [.int .i64 g.bo,nv,iv])=true:=by
  simp only[cT,nR,snv,siv,fT,lJ,decide_true,aO,beq_self_eq_true]
 have hjl:=jZ.len;have hml:W.length<=10000000:=by omega
 have hmx:∀x∈W,x.length<=10000000:=fun x hx=>by rw[(C.au x hx).M.len];omega
 obtain⟨zb,zq,z,zi,zs,zlt,zl⟩:=jX hmZ (show 0< [u,w].length by show 0<2;omega);have zs:bO .i64 Z z u:=zs;have sz:=bO.self zs;obtain⟨yb',yq,yr,yi,ys,ylt,yl⟩:=jX hmZ (show 1< [u,w].length by show 1<2;omega);have ys:bO .i64 Z yr w:=ys;refine aW (Q:=fun o A' X=>o= .normal/\CtA Z mv wv ov gb W.length 0 A' X) (aL (bK (CtA Z mv wv ov gb W.length) ?_ W.length _ _ ⟨rfl,de _,0,ay,ag,ag,ag,ag,ah⟩)) ?_
 ·rintro k ⟨F,inr⟩ X ⟨q0,sX,i,hik,p11,p14,p17,p19,p22⟩;simp only at q0 p11 p14 p17 p19 p22;subst q0;refine fE ?_;simp only[↓sU,sD,rE,↓reduceIte,rA,p17,p22,hjl,Ah];by_cases hlt:i<W.length;rotate_left
  ·refine aK (by simp only[↓sU,sD,rE,↓reduceIte,rA,Aa (show ¬ (i:Int)<(W.length:Int) by omega)]) (bG ?_);refine af ?_;obtain rfl:k=0:=by omega
   exact⟨rfl,sX,i,hik,by refine⟨?_,?_,?_,?_,?_⟩<;>simp only[↓sU,sD,rE,↓reduceIte,rA,p11,p14,p17,p19,p22]⟩
  refine aM (by simp only[↓sU,sD,rE,↓reduceIte,rA,Ab (show(i:Int)<(W.length:Int) by omega)]) (aH ?_);refine af ?_;have w1:=dc i
  have gX:=(sX.2 _ lZ).trans gZ;have lX:=Ae lZ sX.1;have l3:=iT gX;obtain⟨xb,xq,a,xi,xs,xlt,xl⟩:=jX jZ hlt;have xlX:=xl X sX;have sa:=bO.self xs;have hxb:xb<X.nx:=Ae xlt sX.1;have hA:=C.au _ (uX hlt);have hP:=C.mu _ (uX hlt);have hnd:=C.nd;refine aA (aL (aA (aW (Q:=fun o A' Y=>o= .normal/\A'.inr=false/\Same X Y/\aD 11 A'.F= .ptr gb 0/\aD 14 A'.F=mv/\aD 17 A'.F=wv/\aD 19 A'.F=ov/\aD 22 A'.F= .int .i64 (i:Int)) (aA (dO (fun _=>False) ?_)) ?_)))
  ·intro X0 x0;rcases Bk i with hi0 | hi0
   ·subst hi0;have p22:aD 22 F= .int .i64 0:=p22;simp only[↓sU,sD,rE,↓reduceIte,rA,p11,p17,p22,l3,lX,Ap,sag,aAX,xi,xlX,sa,hxb];refine cL rfl ?_;refine af ?_;refine aQ (aCg H C.hf (aP.same (E:=cI) bT hnZ (sX.trans x0)) (aP.same (E:=cW) cM hiZ (sX.trans x0)) (xs.same (sX.trans x0)) hA) ?_;rintro _ X1 ⟨rfl,x1⟩;refine⟨x1,?_⟩;simp only[↓sU,sD,rE,↓reduceIte,rA,p11,p17,p22,Aa (show ¬ (0:Int)≠0 by decide),Aa (show ¬ (0:Int)>0 by decide)];refine aK (ag) (aH ?_);exact⟨rfl,rfl,x0.trans x1,ai p11,ai p14,ai p17,ai p19,by simp only[↓sU,sD,rE,↓reduceIte,rA,p22];try rfl⟩
   ·have wm:IntKind.i64.wrap ((i:Int) - 1)=((i - 1:Nat):Int):=by rw[wrap_i64 ay ay];omega
    obtain⟨vb,vq,a',vi,vs,vlt,vl⟩:=jX jZ (show i - 1<W.length by omega);have vl:=vl X sX;have sa':=bO.self vs;have hvb:vb<X.nx:=Ae vlt sX.1;have hne:=hnd (i - 1) ay;rw[show i - 1+1=i by omega] at hne;simp only[↓sU,sD,rE,↓reduceIte,rA,p11,p17,p22,l3,lX,Ap,sag,aJ,xi,xlX,sa,hxb];refine cL rfl ?_;refine af ?_;refine aQ (aCg H C.hf (aP.same (E:=cI) bT hnZ (sX.trans x0)) (aP.same (E:=cW) cM hiZ (sX.trans x0)) (xs.same (sX.trans x0)) hA) ?_;rintro _ X1 ⟨rfl,x1⟩;refine⟨x1,?_⟩;simp only[↓sU,sD,rE,↓reduceIte,rA,p11,p17,p22,Ap,aJ,xi,xlX,sa,hxb,wm,vi,vl,sa',hvb,Aa (show ¬ (0:Int)≠0 by decide),Ab (show(i:Int)>0 by omega)];refine cL rfl ?_;refine af ?_;refine aQ (oW H (xs.same (sX.trans (x0.trans x1))) (vs.same (sX.trans (x0.trans x1))) (hmx _ (uX hlt))) ?_;rintro _ X2 ⟨rfl,x2⟩;refine⟨x2,?_⟩;simp only[↓sU,sD,rE,↓reduceIte,rA,p11,p17,p22,Aa hne];refine aK (ag) (aH ?_);exact⟨rfl,rfl,x0.trans (x1.trans x2),by refine⟨?_,?_,?_,?_,?_⟩<;>simp only[↓sU,sD,rE,↓reduceIte,rA,p11,p14,p17,p19,p22]⟩
  clear p11 p14 p17 p19 p22 gX lX l3 xlX hxb;rintro o ⟨F2,inr⟩ Y ⟨rfl,q0,hY,p11,p14,p17,p19,p22⟩;simp only at q0 p11 p14 p17 p19 p22;subst q0;refine af ?_;have sY:=sX.trans hY;have gY:=(sY.2 _ lZ).trans gZ;have lY:=Ae lZ sY.1;have l3:=iT gY;have xlY:=xl Y sY;have hxb:xb<Y.nx:=Ae xlt sY.1;have zlY:=zl Y sY;have hzb:zb<Y.nx:=Ae zlt sY.1;refine aA (dO (fun _=>False) ?_);intro X0 x0;simp only[↓sU,sD,rE,↓reduceIte,rA,p11,p14,p17,p22,l3,lY,Ap,sag,aAX,aJ,xi,xlY,sa,hxb,zi,zlY,sz,hzb];refine cL rfl ?_;refine af ?_;have sY0:=sY.trans x0;refine aQ (aIF H C.hf (aP.same (E:=cI) bT hnZ sY0) (aP.same (E:=cW) cM hiZ sY0) (xs.same sY0) (zs.same sY0) hA C.hu) ?_;rintro _ X1 ⟨x1,pv,rfl,hpv⟩;refine⟨x1,?_⟩;simp only[↓sU,sD,rE,↓reduceIte,rA,ex0,ex1];refine bQ ?_;simp only[↓aC,aB,rE,↓reduceIte,rA,p17,Aa (show ¬ (0:Int)≠0 by decide)];refine bE (aq ?_);have hpv:bO .i64 X1 pv _:=hpv;have sY1:=sY0.trans x1;refine aQ (vO H (aP.same (E:=pF) gL jZ sY1) hpv hP hml hmx) ?_;rintro _ X2 ⟨rfl,x2⟩;simp only[↓sU,sD,rE,↓reduceIte,rA,eF,Bt];refine aK (ag) (aH ?_);refine af ?_;refine aG ?_;simp only[↓sU,sD,rE,↓reduceIte,rA,p22,w1];exact⟨k - 1,ay,rfl,sY1.trans x2,i+1,ay,by refine⟨?_,?_,?_,?_,?_⟩<;>simp only[↓sU,sD,rE,↓reduceIte,rA,p11,p14,p17,p19]⟩
 rintro o ⟨F,inr⟩ X ⟨rfl,q0,sX,_,_,p11,p14,p17,p19,p22⟩;simp only at q0 p11 p14 p17 p19 p22;subst q0;refine af ?_;have zlX:=zl X sX;refine fE ?_;simp only[↓aC,aB,rE,↓reduceIte,rA,p14,p17,aAX,zi,zlX];refine bE (aq ?_);refine aQ (vO H (aP.same (E:=pF) gL jZ sX) (zs.same sX) C.u1 hml hmx) ?_;rintro _ X1 ⟨rfl,x1⟩;have sX1:=sX.trans x1;have ylX:=yl X1 sX1;simp only[↓aC,aB,rE,↓reduceIte,rA,eF,Bt,p14,p17,nat1,yi,ylX];refine bE (aq ?_);refine aQ (vO H (aP.same (E:=pF) gL jZ sX1) (ys.same sX1) C.v1 hml hmx) ?_;rintro _ X2 ⟨rfl,x2⟩;simp only[↓sU,sD,rE,↓reduceIte,rA,eF,Bt];refine aK (ag) (aH ?_);refine af ?_;have sX2:=sX1.trans x2;have hcl:=C.oo.len;have hcle:=C.oo.le;have hct:=C.ct;have hov:=io.len;have h30':=C.n30;generalize g.bk.length=N at hcl hcle hct h30';refine fE (af ?_);refine aW (Q:=fun o A' X=>o= .normal/\CtO Z wv ov N 0 A' X) (aL (bK (CtO Z wv ov N) ?_ N _ _ ⟨rfl,sX2,0,ay,ai p17,ai p19,ah⟩)) ?_;rotate_left
 ·rintro o ⟨F,inr⟩ X ⟨rfl,q0,sX,_⟩;simp only at q0;subst q0;refine af ?_;refine bQ (af ?_);refine aR (af ?_);exact s0Z.trans sX
 clear zlX ylX p11 p14 p17 p19 p22 sX2 x2 x1 sX1 sX zi zl yi yl ys zs sz;rintro k ⟨F,inr⟩ X ⟨q0,sX,i,hik,p17,p19,p25⟩;simp only at q0 p17 p19 p25;subst q0;refine fE ?_;simp only[↓sU,sD,rE,↓reduceIte,rA,p19,p25,hov,hcl,Ah];by_cases hlt:i<N;rotate_left
 ·refine aK (by simp only[↓sU,sD,rE,↓reduceIte,rA,Aa (show ¬ (i:Int)<(N:Int) by omega)]) (bG ?_);refine af ?_;obtain rfl:k=0:=by omega
  exact⟨rfl,sX,i,hik,by refine⟨?_,?_,?_⟩<;>simp only[↓sU,sD,rE,↓reduceIte,rA,p17,p19,p25]⟩
 refine aM (by simp only[↓sU,sD,rE,↓reduceIte,rA,Ab (show(i:Int)<(N:Int) by omega)]) (aH ?_);refine af ?_;have w1:=dc i
 refine aA (aL (aA (aG ?_)));refine af ?_;refine fE (af ?_);refine aW (Q:=fun o A' Y=>o= .normal/\CtN Z wv ov O i N 0 A' Y) (aL (bK (CtN Z wv ov O i N) ?_ N _ _ ⟨rfl,sX,0,ay,ai p17,ai p19,ai p25,ah,ah⟩)) ?_
 ·clear p17 p19 p25 sX;rintro k2 ⟨F,inr⟩ Y ⟨q0,sY,q,hqk,p17,p19,p25,p26,p27⟩;simp only at q0 p17 p19 p25 p26 p27;subst q0;refine fE ?_;simp only[↓sU,sD,rE,↓reduceIte,rA,p19,p27,hov,hcl,Ah];by_cases hql:q<N;rotate_left
  ·refine aK (by simp only[↓sU,sD,rE,↓reduceIte,rA,Aa (show ¬ (q:Int)<(N:Int) by omega)]) (bG ?_);refine af ?_;obtain rfl:k2=0:=by omega
   exact⟨rfl,sY,q,hqk,by refine⟨?_,?_,?_,?_,?_⟩<;>simp only[↓sU,sD,rE,↓reduceIte,rA,p17,p19,p25,p26,p27]⟩
  refine aM (by simp only[↓sU,sD,rE,↓reduceIte,rA,Ab (show(q:Int)<(N:Int) by omega)]) (aH ?_);refine af ?_;have wq:=dc q
  have hmq:=aJu (l:=O) (x:=O.getD i 0) (n:=q);have wn:IntKind.i64.wrap (((fB O (O.getD i 0) q:Nat):Int)+1)=((fB O (O.getD i 0) q+1:Nat):Int):=by rw[wrap_i64 ay ay];omega
  obtain⟨bq,oq,iq,lq,dq⟩:=bO.ptr (io.same sY) (show q<O.length by omega);obtain⟨bi,oi,ii,li,di⟩:=bO.ptr (io.same sY) (show i<O.length by omega);have sov:=bO.self io;have hst:fB O (O.getD i 0) (q+1)=fB O (O.getD i 0) q+if O.getD q 0=O.getD i 0 then 1 else 0:=rfl;refine aA (aL (aA (dO (fun _=>False) ?_)));intro X0 x0;simp only[↓sU,sD,rE,↓reduceIte,rA,p19,p25,p27,Ap,aJ,iq,dq,lq,ii,di,li,eM,sov,bX];by_cases e:O.getD q 0=O.getD i 0
  ·rw[if_pos e] at hst;refine aM (by simp only[↓sU,sD,rE,↓reduceIte,rA,Ab e]) ?_;refine aG ?_;simp only[↓sU,sD,rE,↓reduceIte,rA,p26,wn];refine aG ?_;simp only[↓sU,sD,rE,↓reduceIte,rA,p27,wq];exact⟨k2 - 1,ay,rfl,sY.trans x0,q+1,ay,by refine⟨?_,?_,?_,?_,?_⟩<;>simp only[↓sU,sD,rE,↓reduceIte,rA,p17,p19,p25,hst]⟩
  ·have hst:fB O (O.getD i 0) (q+1)=fB O (O.getD i 0) q:=by rw[hst,if_neg e];rfl
   refine aK (by simp only[↓sU,sD,rE,↓reduceIte,rA,Aa e]) (aH ?_);refine af ?_;refine aG ?_;simp only[↓sU,sD,rE,↓reduceIte,rA,p27,wq];exact⟨k2 - 1,ay,rfl,sY.trans x0,q+1,ay,by refine⟨?_,?_,?_,?_,?_⟩<;>simp only[↓sU,sD,rE,↓reduceIte,rA,p17,p19,p25,p26,hst]⟩
 rintro o ⟨F2,inr⟩ Y ⟨rfl,q0,sY,q,hqk,p17',p19',p25',p26,_⟩;simp only at q0 p17' p19' p25' p26;subst q0;obtain rfl:q=N:=by omega
 refine af ?_;obtain⟨cc,hcc⟩:=hct i hlt;have hmp:=aGY (l:=O) (k:=i) hlt;have hr:iL .rem (.p .int) (.int .i64 (W.length:Int)) (.int .i64 ((fB O (O.getD i 0) q:Nat):Int))=some (.int .i64 0):=by
  rw[aEC _ ay,hcc,Int.natCast_mul,Int.mul_tmod_right]
 obtain⟨c1,c2⟩:=hcle i hlt;have iai:=(io.same sY).cn (show i<O.length by omega);have ldi:=(io.same sY).ld (show i<O.length by omega);refine bQ ?_;simp only[↓sU,sD,rE,↓reduceIte,rA,p17',p19',p25',p26,aJ,iai,ldi,hjl,Ah,hr,Aa (show ¬O.getD i 0>(i:Int) by omega),Aa (show ¬O.getD i 0<0 by omega),Aa (show ¬ (0:Int)≠0 by decide)];refine aK (ag) (aH ?_);refine af ?_;refine aG ?_;simp only[↓sU,sD,rE,↓reduceIte,rA,p25',w1];exact⟨k - 1,ay,rfl,sY,i+1,ay,by refine⟨?_,?_,?_⟩<;>simp only[↓sU,sD,rE,↓reduceIte,rA,p17',p19']⟩
end Go.Ev.Gl
