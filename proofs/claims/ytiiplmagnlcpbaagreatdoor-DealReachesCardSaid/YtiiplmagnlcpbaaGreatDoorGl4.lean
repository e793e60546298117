import Derived.Test.YtiiplmagnlcpbaaGreatDoorGl3
set_option linter.unusedSimpArgs false
set_option linter.unusedVariables false
open Nat renaming reduceEqDiff -> rE, reduceAdd -> rA
set_option maxHeartbeats 0
namespace Go.Ev.Gl
variable {fns:T cM}
theorem aHl{i j:Nat}{fn:cM}(hi:fns.get i=some fn)(hj:fns.get j=some fn){args:bo}{S:St}{Q:AV->St->Prop}(h:eR fns (.fn i [] []) args S Q):eR fns (.fn j [] []) args S Q:=by
 have⟨n,v,S',h1,h2⟩:=h;cases n with
 | zero=>cases h1
 | succ n=>
  refine⟨n+1,v,S',?_,h2⟩;have e1:(ev fns (n+1)).call (.fn i [] []) args S=aU (fns.get i) (fun f=>mY f (qP [] (qP args [])) (ev fns n) S):=rfl;have e2:(ev fns (n+1)).call (.fn j [] []) args S=aU (fns.get j) (fun f=>mY f (qP [] (qP args [])) (ev fns n) S):=rfl;rw[e2,hj,<-hi,<-e1];exact h1
theorem qG{S:St}{v:AV}{l:bt}(H:Has fns)(h:bQ S v l)(hs:bR l)(hlen:l.length<1000000000000):eR fns (.fn 89 [] []) [v] S fun r S'=>bV S r (val l)/\S'=S:=
 aHl H.f139 H.f89 (nW H.f139 h hs hlen)
theorem vT{S:St}{a b:AV}{x y:Nat}(H:Has fns)(ha:bV S a x)(hb:bV S b y)(hx:Fits x):eR fns (.fn 65 [] []) [a,b] S fun r S'=>r= .int .i64 (yV x y)/\Same S S':=
 aHl H.f118 H.f65 (aAT H.f118 ha hb hx)
theorem wF{S:St}{x:Nat}(H:Has fns)(hx:x<B):eR fns (.fn 109 [] []) [.int .u32 (x:Int)] S fun r S'=>bV S' r x/\Same S S':=by
 refine bE H.f109 (by simp) ?_;refine aj ?_;refine aY (aj ?_);refine aY (aj ?_);refine nJ (jW (k:=.u32) (n:=(x:Int)) (ak)) ?_;intro S1 s1 n1 g1;try refine aj ?_
 refine aK (aj ?_);have h:bQ S1 (.sl S.nx 0 1 1 false) [x]:=fL (l:=[x]) (o:=false) (sz:=0) g1 au rfl (Af _);refine aG (qG H h (lB hx) (by simp)) ?_;rintro r T ⟨hr,hT⟩;rw[hT];try refine aj ?_
 refine aI (aj ?_);rw[show val [x]=x by simp [val]] at hr;exact⟨hr,s1⟩
theorem aOW(e:oZ){t:Nat}(ht:t<=4294967295):kH .quo e (.int .u32 ((t:Nat):Int)) (.int .u32 1000000000)=some (.int .u32 ((t / B:Nat):Int)):=by
 show aKd .u32 (.ofNat t) (.ofNat 1000000000)=_;show bM (Nat.beq 1000000000 0) none (some (AV.int .u32 (nat .u32 (Nat.div t 1000000000))))=_;have h1:Nat.div t 1000000000<=4294967295:=Bd (Ea ..) ht;show some (AV.int .u32 (bM (Nat.ble (Nat.div t 1000000000) 4294967295) (.ofNat (Nat.div t 1000000000)) _))=_;rw[Ai h1,aP];rfl
def aPH(S:St)(a b:AV)(l m:bt)(k:Nat)(A:bK)(S':St):Prop:=
 A.inr=false/\∃ (i c:Nat) (d:bt) (u:AV),k=2 * (max l.length m.length - i)+c/\d.length=i/\c<=1/\(max l.length m.length<i->c=0)/\aD 0 A.F=a/\aD 1 A.F=b/\aD 5 A.F=u/\aD 6 A.F= .int .u32 (c:Int)/\aD 7 A.F= .int .i64 (i:Int)/\
  aCe S S' u d/\Same S S'/\bR d/\val d+B ^ i * c=val (l.take i)+val (m.take i)/\(d= []\/B ^ (d.length - 1)<=val l+val m)
theorem aFC{l:bt}{i:Nat}(h:¬i<l.length):l[i]?.getD 0=0:=by rw[Dp au];rfl
theorem aMS{l:bt}{i:Nat}(h:jM l)(hi:i<l.length):B ^ i<=val l:=
 Bd (Ch gS au) (aAw h (by intro e;subst e;simp at hi))
theorem aBR(l:bt)(i:Nat):val (l.take i)<=val l:=by
 have:=val_append (l.take i) (l.drop i);rw[Bt] at this;omega
theorem aIB{S:St}{a b:AV}{x y:Nat}(H:Has fns)(ha:bV S a x)(hb:bV S b y)(hx:Fits x)(hy:Fits y):eR fns (.fn 64 [] []) [a,b] S fun r S'=>bV S' r (x+y)/\Same S S':=by
 obtain⟨l,hla,hl,rfl⟩:=ha;obtain⟨m,hmb,hm,rfl⟩:=hb;have hll:=hx.len hl;have hmm:=hy.len hm;have hB:B=1000000000:=rfl;refine bE H.f64 (by simp) ?_;refine aj ?_;refine aY (aj ?_);refine aY (aj ?_);refine aY (aj ?_);refine dS (aj ?_);refine aO (bJ (aPH S a b l m) ?_ _ _ _ ⟨rfl,0,0,[],.cd,rfl,rfl,au,fun _=>rfl,ak,ak,ak,ak,ak,.inl ⟨rfl,rfl⟩,Same.refl _,bR.nil,by simp [cN],.inl rfl⟩);rintro k ⟨F,inr⟩ S' ⟨q0,i,c,d,u,hk,hd,hc1,hc0,p0,p1,p5,p6,p7,hg,hS,hsd,hinv,hlow⟩;simp only at q0 p0 p1 p5 p6 p7;subst q0;have hla':=hla.same hS;have hmb':=hmb.same hS;refine aC (aC (aX (Q:=fun o A' S2=>o= .normal/\S2=S'/\A'.inr=false/\aD 0 A'.F=a/\aD 1 A'.F=b/\aD 5 A'.F=u/\aD 6 A'.F= .int .u32 (c:Int)/\aD 7 A'.F= .int .i64 (i:Int)/\aD 21 A'.F= .bool (decide (i<l.length\/i<m.length\/0<c))) (aJ ?_) ?_))
 ·by_cases h1:i<l.length
  ·simp only[↓stU,aB,rE,↓reduceIte,p0,p1,p5,p6,p7,hla.len,Ab (show(i:Int)<(l.length:Int) by omega),aHY,Ab (show i<l.length\/i<m.length\/0<c by omega)]
  ·by_cases h2:i<m.length
   ·simp only[↓stU,aB,rE,↓reduceIte,p0,p1,p5,p6,p7,hla.len,hmb.len,Aa (show ¬ (i:Int)<(l.length:Int) by omega),Ab (show(i:Int)<(m.length:Int) by omega),Ab (show i<l.length\/i<m.length\/0<c by omega)]
   ·by_cases h3:0<c
    ·simp only[↓stU,aB,rE,↓reduceIte,p0,p1,p5,p6,p7,hla.len,hmb.len,Aa (show ¬ (i:Int)<(l.length:Int) by omega),Aa (show ¬ (i:Int)<(m.length:Int) by omega),Ab (show(0:Int)<(c:Int) by omega),Ab (show i<l.length\/i<m.length\/0<c by omega)]
    ·simp only[↓stU,aB,rE,↓reduceIte,p0,p1,p5,p6,p7,hla.len,hmb.len,Aa (show ¬ (i:Int)<(l.length:Int) by omega),Aa (show ¬ (i:Int)<(m.length:Int) by omega),Aa (show ¬ (0:Int)<(c:Int) by omega),Aa (show ¬ (i<l.length\/i<m.length\/0<c) by omega)]
 clear p0 p1 p5 p6 p7;rintro o ⟨F,inr⟩ S2 ⟨rfl,hS2,q0,p0,p1,p5,p6,p7,p21⟩;simp only at q0 p0 p1 p5 p6 p7 p21;subst q0;rw[hS2];refine aj ?_;by_cases hin:i<l.length\/i<m.length\/0<c
 ·have him:i<=max l.length m.length:=by
   rcases Be (max l.length m.length) i with h | h
   ·have:=hc0 h;omega
   ·exact h
  refine aN (by simp only[↓stU,aB,rE,↓reduceIte,p21,Ab hin]) (aH ?_);refine aj ?_;have hxi:=getD_lt hl.1 i;have hyi:=getD_lt hm.1 i;have hxd:=hla'.ld (i:=i);have hyd:=hmb'.ld (i:=i);rw[Ae] at hxd hyd;have htl:=cK l i;have htm:=cK m i;have gl:=@aFC l i;have gm:=@aFC m i;generalize l[i]?.getD 0=xi at *;generalize m[i]?.getD 0=yi at *;refine aC (aO (aC (aX (Q:=fun o A' S2=>o= .normal/\S2=S'/\A'.inr=false/\aD 0 A'.F=a/\aD 1 A'.F=b/\aD 5 A'.F=u/\aD 6 A'.F= .int .u32 ((c+xi:Nat):Int)/\aD 7 A'.F= .int .i64 (i:Int)) (aC (aJ ?_)) ?_)))
  ·by_cases h1:i<l.length
   ·have w1:IntKind.u32.wrap ((c:Int)+(xi:Int))=((c+xi:Nat):Int):=by rw[wrap_u32 au au];omega
    refine e9 p0 p1 p5 p6 p7 hla.len ?_;refine aN (by simp only[↓stU,aB,rE,↓reduceIte,Ab (show(i:Int)<(l.length:Int) by omega)]) (aJ ?_);simp only[↓stU,aB,rE,↓reduceIte,p0,p1,p5,p6,p7,hla.cw h1,hxd h1,w1]
   ·refine e9 p0 p1 p5 p6 p7 hla.len ?_;refine aM (by simp only[↓stU,aB,rE,↓reduceIte,Aa (show ¬ (i:Int)<(l.length:Int) by omega)]) (aH ?_);simp only[↓stU,aB,rE,↓reduceIte,p0,p1,p5,p6,p7,gl h1,Bi]
  clear p0 p1 p5 p6 p7 p21;rintro o ⟨F,inr⟩ S2 ⟨rfl,hS2,q0,p0,p1,p5,p6,p7⟩;simp only at q0 p0 p1 p5 p6 p7;subst q0;rw[hS2];refine aj ?_;refine aC (aX (Q:=fun o A' S2=>o= .normal/\S2=S'/\A'.inr=false/\aD 0 A'.F=a/\aD 1 A'.F=b/\aD 5 A'.F=u/\aD 6 A'.F= .int .u32 ((c+xi+yi:Nat):Int)/\aD 7 A'.F= .int .i64 (i:Int)) (aC (aJ ?_)) ?_)
  ·by_cases h1:i<m.length
   ·have w1:IntKind.u32.wrap (((c+xi:Nat):Int)+(yi:Int))=((c+xi+yi:Nat):Int):=by rw[wrap_u32 au au];omega
    refine e9 p0 p1 p5 p6 p7 hmb.len ?_;refine aN (by simp only[↓stU,aB,rE,↓reduceIte,Ab (show(i:Int)<(m.length:Int) by omega)]) (aJ ?_);simp only[↓stU,aB,rE,↓reduceIte,p0,p1,p5,p6,p7,hmb.cw h1,hyd h1,w1]
   ·refine e9 p0 p1 p5 p6 p7 hmb.len ?_;refine aM (by simp only[↓stU,aB,rE,↓reduceIte,Aa (show ¬ (i:Int)<(m.length:Int) by omega)]) (aH ?_);simp only[↓stU,aB,rE,↓reduceIte,p0,p1,p5,p6,p7,gm h1,Bi]
  clear p0 p1 p5 p6 p7;rintro o ⟨F,inr⟩ S2 ⟨rfl,hS2,q0,p0,p1,p5,p6,p7⟩;simp only at q0 p0 p1 p5 p6 p7;subst q0;rw[hS2];refine aj ?_;have hrem:=aPx (.p .int) (c+xi+yi);have hquo:=aOW (.p .int) (t:=c+xi+yi) au;have hdm:(c+xi+yi) / B * B+(c+xi+yi) % B=c+xi+yi:=by rw[Bf];exact Dl _ _
  have hmod:(c+xi+yi) % B<B:=Dn _ gS;have hz:xi=0->yi=0->(c+xi+yi) / B=0:=fun e1 e2=>Gv au;generalize (c+xi+yi) / B=c' at *;have hc1':c'<=1:=by rw[hB] at hdm;omega
  generalize (c+xi+yi) % B=w at *;have⟨v',S2,happ,hg2,hS2⟩:=hg.app (w:=w) (bytes:=4) hS ax ax;refine aY (dm p5 p6 hrem ?_);rw[jW (k:=.u32) (n:=(w:Int)) (af)];try refine ae ?_
  refine gB (fun call=>by refine dk @tR p5 ?_;exact happ) ?_;try refine ae ?_
  refine aJ (dk p6 hquo ?_);refine aJ ?_;have w1:=dq i
  refine dk p7 w1 ?_;have hstep:val (d++ [w])+B ^ (i+1) * c'=val (l.take (i+1))+val (m.take (i+1)):=by
   rw[fK,hd,htl,htm,Ci];generalize B ^ i=P at *;have e1:P * B * c'=P * (c' * B):=by grind
   have e2:P * w+P * (c' * B)=P * c+P * xi+P * yi:=by rw[<-Ca,show w+c' * B=c+xi+yi by omega];grind
   omega
  refine⟨_,?_,rfl,i+1,c',d++ [w],v',rfl,by simp [hd],?_,?_,ah p0,ah p1,af,af,af,hg2,hS2,bR.append.2 ⟨hsd,lB hmod⟩,hstep,.inr ?_⟩
  ·rcases Be i (max l.length m.length) with h | h
   ·omega
   ·have:=hz (gl au) (gm au);omega
  ·omega
  ·intro h;exact hz (gl au) (gm au)
  ·rw[show(d++ [w]).length - 1=i by simp [hd]];rcases hin with h | h | h
   ·have:=aMS hl h;omega
   ·have:=aMS hm h;omega
   ·have h1:=aBR l i;have h2:=aBR m i;have h3:B ^ i * 1<=B ^ i * c:=Bb _ h;omega
 ·refine aM (by simp only[↓stU,aB,rE,↓reduceIte,p21,Aa hin]) (bD ?_);refine aj ?_;refine aY (eo p5 ?_);refine aI (aj ?_);have hc:c=0:=by omega
  rw[hc,Hg,Bi,Am au,Am au] at hinv;exact⟨⟨d,hg.limbs,rC hsd (by rw[hinv];exact hlow),hinv⟩,hS⟩
theorem aGv(v:AV)(i j:Nat):uB (uB v i) j=uB v j:=by cases v<;>rfl
theorem aK7{S:St}{v:AV}{l:bt}(H:Has fns)(h:bQ S v l)(hs:bR l)(hlen:l.length<1000000000000):eR fns (.fn 89 [] []) [v] S fun r S'=>S'=S/\∃n,n<=l.length/\jM (l.take n)/\val (l.take n)=val l/\bQ S r (l.take n)/\(r=v/\n=l.length\/n<l.length/\r=uB v n):=by
 refine bE H.f89 (by simp) ?_;simp;refine aY ?_;simp;refine aC (aO (bJ (fun k A S'=>S'=S/\A.inr=false/\k<=l.length/\∃u,aD 0 A.F=u/\bQ S u (l.take k)/\val (l.take k)=val l/\(u=v/\k=l.length\/k<l.length/\u=uB v k)) ?_ l.length _ _ ⟨rfl,rfl,Af _,v,by simp,by rw[Dw];exact h,by rw[Dw],.inl ⟨rfl,rfl⟩⟩));rintro k ⟨F,inr⟩ S' ⟨rfl,rfl,hk,u,h0,hu,hv,hor⟩;simp only at h0;refine dS ?_;rcases Ap k with hm | hm
 ·subst hm;have hl0:=hu.len;simp at hl0;simp [h0,hl0];refine aM (by simp) (bD ?_);simp;refine aY ?_;simp [h0];refine aI ?_;simp;exact⟨0,au,by simpa using qF,hv,hu,hor⟩
 ·obtain⟨j,rfl⟩:∃j,k=j+1:=⟨k - 1,au⟩;have hL:(l.take (j+1)).length=j+1:=by rw[Bh];omega
  have htk:l.take (j+1)=l.take j++ [l[j]?.getD 0]:=by rw[Cz,Ad au];rfl
  have hlt:j<(l.take (j+1)).length:=by omega
  have hpos:(0:Int)<(j:Int)+1:=by omega
  have e1:IntKind.i64.wrap (j:Int)=(j:Int):=wrap_i64 au au;have hlen':=hu.len;rw[hL] at hlen';have hiad:=hu.cw hlt;have hld:=hu.ld hlt;have e2:(l.take (j+1)).getD j 0=l[j]?.getD 0:=by rw[Ae,Ff,if_pos au]
  rw[e2] at hld;have hvv:=cK l j;have hnx:l[j]?.getD 0≠0->jM (l.take (j+1)):=fun hx=>⟨hs.take _,by rw[htk];simpa using hx⟩;generalize l[j]?.getD 0=x at *;simp [h0,hlen',hpos,e1,hiad,hld];refine iP (t:=decide (x=0)) (by simp) (fun hx=>aH ?_) (fun hx=>bD ?_)
  ·have hx:x=0:=by simpa using hx
   subst hx;simp;refine aO (aJ ?_);have hh:=hu.head hlt;rw[List.take_take,Cj au] at hh;simp [h0,hlen',e1,hu.slc hlt];refine⟨j,au,au,hh,by rw[<-hv,hvv,Hg,Bi],.inr ⟨au,?_⟩⟩;rcases hor with⟨rfl,_⟩ | ⟨_,rfl⟩
   ·rfl
   ·rw[aGv]
  ·have hx:x≠0:=by simpa using hx
   simp;refine aY ?_;simp [h0];refine aI ?_;simp;exact⟨j+1,hk,hnx hx,hv,hu,hor⟩
def sG(S0 S:St)(v:AV)(l:bt):Prop:=
 (l= []/\v= .cd)\/∃b cap o e s rest,v= .sl b 0 l.length cap o/\l.length<=cap/\S0.nx<=b/\b<S.nx/\S.h.get b=some (.cells (bL (l++rest)) e s)
theorem sG.limbs{S0 S:St}{v:AV}{l:bt}(h:sG S0 S v l):bQ S v l:=by
 rcases h with⟨rfl,rfl⟩ | ⟨b,cap,o,e,s,rest,rfl,h1,h2,h3,h4⟩
 ·exact .inl ⟨rfl,.inl rfl⟩
 ·exact uE h4 h3 h1
theorem aCe.own{S0 S:St}{v:AV}{d:bt}(h:aCe S0 S v d):sG S0 S v d:=by
 rcases id h with⟨rfl,rfl⟩ | ⟨b,rfl,h1,h2,h3⟩
 ·exact .inl ⟨rfl,rfl⟩
 ·exact .inr ⟨b,d.length,true,true,1,[],rfl,Af _,h1,h2,by rw[Cm];exact h3⟩
theorem sG.head{S0 S:St}{v r:AV}{l:bt}{n:Nat}(h:sG S0 S v l)(hr:r=v/\n=l.length\/n<l.length/\r=uB v n):sG S0 S r (l.take n):=by
 rcases hr with⟨rfl,rfl⟩ | ⟨hn,rfl⟩
 ·rw[Dw];exact h
 ·rcases h with⟨rfl,h⟩ | ⟨b,cap,o,e,s,rest,rfl,h1,h2,h3,h4⟩
  ·simp at hn
  ·refine .inr ⟨b,cap,o,e,s,l.drop n++rest,?_,by rw[Bh];omega,h2,h3,?_⟩
   ·rw[Bh,Cj au];rfl
   ·rw[<-Bn,Bt];exact h4
theorem aKt{S0 S:St}{v:AV}{l:bt}(H:Has fns)(h:sG S0 S v l)(hs:bR l)(hlen:l.length<1000000000000):eR fns (.fn 89 [] []) [v] S fun r S'=>S'=S/\∃m,sG S0 S r m/\jM m/\val m=val l/\m.length<=l.length:=by
 refine aG (aK7 H h.limbs hs hlen) ?_;rintro r S' ⟨h1,n,h2,h3,h4,h5,h6⟩;exact⟨h1,l.take n,h.head h6,h3,h4,by rw[Bh];omega⟩
def aEo(S0 S:St)(v:AV)(n:Nat):Prop:=∃l,sG S0 S v l/\jM l/\val l=n
theorem aEo.nat{S0 S:St}{v:AV}{n:Nat}(h:aEo S0 S v n):bV S v n:=by
 have⟨l,h1,h2,h3⟩:=h;exact⟨l,h1.limbs,h2,h3⟩
def aNm(S:St)(a b:AV)(l m:bt)(k:Nat)(A:bK)(S':St):Prop:=
 A.inr=false/\∃ (i c:Nat) (d:bt) (u:AV),i+k=l.length/\d.length=i/\c<=1/\aD 0 A.F=a/\aD 1 A.F=b/\aD 5 A.F=u/\aD 6 A.F= .int .i64 (c:Int)/\aD 7 A.F= .int .i64 (i:Int)/\
  aCe S S' u d/\Same S S'/\bR d/\val (l.take i)+B ^ i * c=val (m.take i)+val d
theorem wG{S:St}{a b:AV}{x y:Nat}(H:Has fns)(ha:bV S a x)(hb:bV S b y)(hx:Fits x)(hyx:y<=x):eR fns (.fn 66 [] []) [a,b] S fun r S'=>aEo S S' r (x - y)/\Same S S':=by
 obtain⟨l,hla,hl,rfl⟩:=ha;obtain⟨m,hmb,hm,rfl⟩:=hb;have hll:=hx.len hl;have hB:B=1000000000:=rfl;have hml:m.length<=l.length:=by
  rcases Be l.length m.length with h | h
  ·have:=fF hl.1 hm h;omega
  ·exact h
 refine bE H.f66 (by simp) ?_;refine aj ?_;refine aY (aj ?_);refine aY (aj ?_);refine aY (aj ?_);refine dS (aj ?_);refine aO (bJ (aNm S a b l m) ?_ l.length _ _ ⟨rfl,0,0,[],.cd,au,rfl,au,ak,ak,ak,ak,ak,.inl ⟨rfl,rfl⟩,Same.refl _,bR.nil,by simp [cN]⟩);rintro k ⟨F,inr⟩ S' ⟨q0,i,c,d,u,hk,hd,hc1,p0,p1,p5,p6,p7,hg,hS,hsd,hinv⟩;simp only at q0 p0 p1 p5 p6 p7;subst q0;have hla':=hla.same hS;have hmb':=hmb.same hS;refine dS (eu p0 p7 hla.len ?_);by_cases hi:i<l.length
 ·refine aN (by simp only[↓stU,aB,rE,↓reduceIte,Ab (show(i:Int)<(l.length:Int) by omega)]) (aH ?_);refine aj ?_;have hxi:=getD_lt hl.1 i;have hyi:=getD_lt hm.1 i;have hxd:=hla'.ld (i:=i) hi;have hyd:=hmb'.ld (i:=i);rw[Ae] at hxd hyd;have htl:=cK l i;have htm:=cK m i;have gm:=@aFC m i;generalize l[i]?.getD 0=xi at *;generalize m[i]?.getD 0=yi at *;have w0:IntKind.i64.wrap (xi:Int)=(xi:Int):=wrap_i64 au au;have w1:IntKind.i64.wrap ((xi:Int) - (c:Int))=(xi:Int) - (c:Int):=wrap_i64 au au;refine aC (aO (aC (aJ ?_)));simp only[↓stU,aB,rE,↓reduceIte,p0,p1,p5,p6,p7,hla.cw hi,hxd,w0,w1];refine aC (aX (Q:=fun o A' S2=>o= .normal/\S2=S'/\A'.inr=false/\aD 0 A'.F=a/\aD 1 A'.F=b/\aD 5 A'.F=u/\aD 8 A'.F= .int .i64 ((xi:Int) - (c:Int) - (yi:Int))/\aD 7 A'.F= .int .i64 (i:Int)) (aC (aJ ?_)) ?_)
  ·by_cases h1:i<m.length
   ·have w3:IntKind.i64.wrap (yi:Int)=(yi:Int):=wrap_i64 au au;have w2:IntKind.i64.wrap ((xi:Int) - (c:Int) - (yi:Int))=(xi:Int) - (c:Int) - (yi:Int):=wrap_i64 au au;refine e7 p0 p1 p5 p7 hmb.len ?_;refine aN (by simp only[↓stU,aB,rE,↓reduceIte,Ab (show(i:Int)<(m.length:Int) by omega)]) (aJ ?_);simp only[↓stU,aB,rE,↓reduceIte,p0,p1,p5,p7,hmb.cw h1,hyd h1,w2,w3]
   ·refine e7 p0 p1 p5 p7 hmb.len ?_;refine aM (by simp only[↓stU,aB,rE,↓reduceIte,Aa (show ¬ (i:Int)<(m.length:Int) by omega)]) (aH ?_);have e0:(xi:Int) - (c:Int) - (yi:Int)=(xi:Int) - (c:Int):=by rw[gm h1];omega
    simp only[↓stU,aB,rE,↓reduceIte,p0,p1,p5,p7,e0]
  clear p0 p1 p5 p6 p7;rintro o ⟨F,inr⟩ S2 ⟨rfl,hS2,q0,p0,p1,p5,p8,p7⟩;simp only at q0 p0 p1 p5 p8 p7;subst q0;rw[hS2];refine aj ?_;refine aY (aj ?_);obtain⟨w,c',hw,hwB,hc1'⟩:∃w c':Nat,xi+c' * B=yi+c+w/\w<B/\c'=if xi<yi+c then 1 else 0:=by
   rw[hB];by_cases h:xi<yi+c
   ·exact⟨xi+1000000000 - (yi+c),1,au,au,by rw[if_pos h]⟩
   ·exact⟨xi - (yi+c),0,au,au,by rw[if_neg h]⟩
  refine aC (aX (Q:=fun o A' S2=>o= .normal/\S2=S'/\A'.inr=false/\aD 0 A'.F=a/\aD 1 A'.F=b/\aD 5 A'.F=u/\aD 6 A'.F= .int .i64 (c':Int)/\aD 8 A'.F= .int .i64 (w:Int)/\aD 7 A'.F= .int .i64 (i:Int)) (aC (aJ ?_)) ?_)
  ·rw[hB] at hw;by_cases h:xi<yi+c
   ·rw[if_pos h] at hc1';subst hc1';refine eo p8 ?_;refine aN (by simp only[↓stU,aB,rE,↓reduceIte,Ab (show(xi:Int) - (c:Int) - (yi:Int)<0 by omega)]) (aJ ?_);have w2:IntKind.i64.wrap ((xi:Int) - (c:Int) - (yi:Int)+1000000000)=(w:Int):=by rw[wrap_i64 au au];omega
    simp only[↓stU,aB,rE,↓reduceIte,p0,p1,p5,p7,p8,w2];try simp
   ·rw[if_neg h] at hc1';subst hc1';refine eo p8 ?_;refine aM (by simp only[↓stU,aB,rE,↓reduceIte,Aa (show ¬ (xi:Int) - (c:Int) - (yi:Int)<0 by omega)]) (aH ?_);have w2:(xi:Int) - (c:Int) - (yi:Int)=(w:Int):=by omega
    simp only[↓stU,aB,rE,↓reduceIte,p0,p1,p5,p7,p8,w2];try simp
  clear p0 p1 p5 p7 p8;rintro o ⟨F,inr⟩ S2 ⟨rfl,hS2,q0,p0,p1,p5,p6,p8,p7⟩;simp only at q0 p0 p1 p5 p6 p8 p7;subst q0;rw[hS2];refine aj ?_;have w3:IntKind.u32.wrap (w:Int)=(w:Int):=wrap_u32 au au;have⟨v',S2,happ,hg2,hS2⟩:=hg.app (w:=w) (bytes:=4) hS ax ax;refine aJ (dm p5 p8 w3 ?_);rw[jW (k:=.u32) (n:=(w:Int)) (af)];try refine ae ?_
  refine gB (fun call=>by refine dk @tR p5 ?_;exact happ) ?_;try refine ae ?_
  refine aJ ?_;have w1:=dq i
  refine dk p7 w1 ?_;refine⟨k - 1,au,rfl,i+1,c',d++ [w],v',au,by simp [hd],by split at hc1'<;>omega,ah p0,ah p1,af,ah p6,af,hg2,hS2,bR.append.2 ⟨hsd,lB hwB⟩,?_⟩;rw[fK,hd,htl,htm,Ci];generalize B ^ i=P at *;have e1:P * B * c'=P * (c' * B):=by grind
  have e2:P * xi+P * (c' * B)=P * yi+P * c+P * w:=by rw[<-Ca,hw];grind
  omega
 ·refine aM (by simp only[↓stU,aB,rE,↓reduceIte,Aa (show ¬ (i:Int)<(l.length:Int) by omega)]) (bD ?_);refine aj ?_;rw[Am au,Am au] at hinv;have hvd:=eX hsd;have hc:c=0:=by
   rcases(by omega:c=0\/c=1) with h | h
   ·exact h
   ·rw[h,Bp] at hinv;rw[hd] at hvd;omega
  rw[hc,Hg,Bi] at hinv;refine aY (eo p5 ?_);refine aK (eo p5 ?_);refine aG (aKt H hg.own hsd au) ?_;rintro r S2 ⟨hS2,e,he,hn,hv,_⟩;rw[hS2];try refine aj ?_
  refine aI (aj ?_);exact⟨⟨e,he,hn,au⟩,hS⟩
def aQy(S:St)(a b:AV)(l m:bt)(k:Nat)(A:bK)(S':St):Prop:=
 A.inr=false/\∃ (i:Nat) (d:bt),i+k=l.length/\d.length=i+m.length/\aD 0 A.F=a/\aD 1 A.F=b/\aD 5 A.F= .sl S.nx 0 (l.length+m.length) (l.length+m.length) false/\aD 6 A.F= .int .i64 (i:Int)/\
  Same S S'/\S.nx<S'.nx/\S'.h.get S.nx=some (.cells (bL (d++List.replicate (l.length - i) 0)) false 0)/\bR d/\val d=val (l.take i) * val m
def aOD(S:St)(a b:AV)(l m O:bt)(i x k:Nat)(A:bK)(S':St):Prop:=
 A.inr=false/\∃ (j:Nat) (L:bt) (c:Nat),j+k=m.length/\L.length=l.length+m.length/\aD 0 A.F=a/\aD 1 A.F=b/\aD 5 A.F= .sl S.nx 0 (l.length+m.length) (l.length+m.length) false/\aD 6 A.F= .int .i64 (i:Int)/\
  aD 7 A.F= .int .u64 (c:Int)/\aD 8 A.F= .int .i64 (j:Int)/\Same S S'/\S.nx<S'.nx/\S'.h.get S.nx=some (.cells (bL L) false 0)/\bR L/\c<B/\L.drop (i+j)=O.drop (i+j)/\
  val (L.take (i+j))+c * B ^ (i+j)=val (O.take (i+j))+B ^ i * x * val (m.take j)
theorem aFQ{b n cap i:Nat}{o:Bool}(hi:i<n):dN (.slice 1) (.sl b 0 n cap o) i=some (.ptr b i):=by rw[jZ hi];simp
theorem gL{S:St}{a b:AV}{x y:Nat}(H:Has fns)(ha:bV S a x)(hb:bV S b y)(hx:Fits x)(hy:Fits y):eR fns (.fn 63 [] []) [a,b] S fun r S'=>bV S' r (x * y)/\Same S S':=by
 obtain⟨l,ha,hl,rfl⟩:=ha;obtain⟨m,hb,hm,rfl⟩:=hb;have hlen:=Fits.len hl hx;have hlen':=Fits.len hm hy;have hB:B=1000000000:=rfl;have hr1:l.length+m.length<=room:=by unfold room;omega
 have hr2:4 * (l.length+m.length)<=room:=by unfold room;omega
 have w0:IntKind.i64.wrap ((l.length:Int)+(m.length:Int))=((l.length+m.length:Nat):Int):=by rw[wrap_i64 au au];omega
 refine bE H.f63 (by simp) ?_;refine aj ?_;refine aY (aj ?_);refine aY (eu ha.len hb.len w0 ?_);refine nJ (kZ (n:=l.length+m.length) (by simp only[↓stU,aB,rE,↓reduceIte,aQ]) (by simp only[↓stU,aB,rE,↓reduceIte,aQ]) hr1 hr2) ?_;intro S1 s1 n1 g1;refine aj ?_;refine dS (aj ?_);refine aO (bJ (aQy S a b l m) ?_ l.length _ _ ⟨rfl,0,List.replicate m.length 0,by simp,by simp,ak,ak,ak,ak,s1,au,?_,fun z hz=>by simp at hz;rw[hz.2];decide,?_⟩)
 ·rintro k ⟨F,inr⟩ S' ⟨q0,i,d,hk,hd,p0,p1,p5,p6,hS,hnx,hblk,hsd,hinv⟩;simp only at q0 p0 p1 p5 p6;subst q0;have ha':=ha.same hS;have hb':=hb.same hS;refine dS (eu p0 p6 ha.len ?_);by_cases hi:i<l.length
  ·refine aN (by simp only[↓stU,aB,rE,↓reduceIte,Ab (show(i:Int)<(l.length:Int) by omega)]) (aH ?_);refine aj ?_;have hx:l[i]?.getD 0<B:=getD_lt hl.1 i;have etk:=cK l i;refine aC (aO (aC (aJ ?_)));refine aj ?_;have hOlen:(d++List.replicate (l.length - i) 0).length=l.length+m.length:=by simp [hd];omega
   have hOs:bR (d++List.replicate (l.length - i) 0):=bR.append.2 ⟨hsd,fun z hz=>by simp at hz;rw[hz.2];decide⟩;have hOt:(d++List.replicate (l.length - i) 0).take (i+m.length)=d:=by rw[<-hd,List.take_left' rfl]
   have hOd:(d++List.replicate (l.length - i) 0).drop (i+m.length)=List.replicate (l.length - i) 0:=by rw[<-hd,List.drop_left' rfl]
   generalize d++List.replicate (l.length - i) 0=O at hblk hOlen hOs hOt hOd;refine dS (aj ?_);refine aX (Q:=fun o A' S''=>o= .normal/\aOD S a b l m O i (l[i]?.getD 0) 0 A' S'') ?_ ?_
   ·refine aO (bJ (aOD S a b l m O i (l[i]?.getD 0)) ?_ m.length _ _ ⟨rfl,0,O,0,by simp,hOlen,am p0,am p1,am p5,am p6,ak,ak,hS,hnx,hblk,hOs,by decide,rfl,by simp [cN]⟩);clear p0 p1 p5 p6;rintro k' ⟨F,inr⟩ S' ⟨p00,j,L,c,hjk,hL,p0,p1,p5,p6,p7,p8,hS,hnx,hblk,hLs,hc,hLd,hinv2⟩;simp only at p00 p0 p1 p5 p6 p7 p8;subst p00;have ha':=ha.same hS;have hb':=hb.same hS;refine dS (eu p1 p8 hb.len ?_);by_cases hj:j<m.length
    ·refine aN (by simp only[↓stU,aB,rE,↓reduceIte,Ab (show(j:Int)<(m.length:Int) by omega)]) (aH ?_);refine aj ?_;have hxld:=ha'.ld hi;have hyld:=hb'.ld hj;rw[Ae] at hxld hyld;have hy:m[j]?.getD 0<B:=getD_lt hm.1 j;have emk:=cK m j;generalize m[j]?.getD 0=yv at hy hyld emk;have hp:i+j<L.length:=by omega
     have hrld:=yJ hblk hp;have ho:L[i+j]?.getD 0<B:=getD_lt hLs (i+j);have hLO:L[i+j]?.getD 0=O[i+j]?.getD 0:=by
      have e1:(L.drop (i+j))[0]? =(O.drop (i+j))[0]? :=by rw[hLd]
      simpa using Hb (·.getD 0) e1
     have eOk:=cK O (i+j);rw[<-hLO] at eOk;generalize L[i+j]?.getD 0=ov at ho hrld eOk;generalize l[i]?.getD 0=xv at *;have⟨hc2,hxy⟩:=aGZ hx hy ho hc;have w1:IntKind.u64.wrap (xv:Int)=xv:=wrap_u64 au au;have w2:IntKind.u64.wrap (yv:Int)=yv:=wrap_u64 au au;have w3:IntKind.u64.wrap ((xv:Int) * yv)=((xv * yv:Nat):Int):=by rw[wrap_u64 (by rw[<-Bj];omega) (by rw[<-Bj];omega)];simp
     have w4:IntKind.u64.wrap (ov:Int)=ov:=wrap_u64 au au;have w5:IntKind.u64.wrap ((c:Int)+(ov:Int))=((c+ov:Nat):Int):=by rw[wrap_u64 au au];omega
     have w6:IntKind.u64.wrap (((c+ov:Nat):Int)+((xv * yv:Nat):Int))=((xv * yv+ov+c:Nat):Int):=by rw[wrap_u64 au au];omega
     have w7:IntKind.i64.wrap ((i:Int)+(j:Int))=((i+j:Nat):Int):=by rw[wrap_i64 au au];omega
     have hiad:=aFQ (b:=S.nx) (n:=l.length+m.length) (cap:=l.length+m.length) (i:=i+j) (o:=false) au;refine aC (aO (aC (jA ?_)));simp only[↓sU,sD,rE,↓reduceIte,rA,p0,p1,p5,p6,p7,p8,w7,aQ,hiad,hrld,w4,w5,ha.cw hi,hxld,w1,hb.cw hj,hyld,w2,w3,w6];have htle:xv * yv+ov+c<=18446744073709551615:=by omega
     generalize hteq:xv * yv+ov+c=t at hc2 htle;have hquo:=aJ1 (.p .int) htle;have hrem:=aOo (.p .int) t;have hdm:t / B * B+t % B=t:=by rw[Bf];exact Dl t B
     have hmod:t % B<1000000000:=Dn t gS;generalize t / B=q at hc2 hdm hquo;generalize t % B=r at hdm hmod hrem;have w9:IntKind.u32.wrap (r:Int)=(r:Int):=wrap_u32 au au;have hrB:r<B:=hmod;obtain⟨U,hT⟩:∃U:St,U=⟨S'.h,S'.nx+22⟩:=⟨_,rfl⟩;have hST:Same S' U:=by rw[hT];exact Same.nx S' 22
     rw[<-hT];have hblkT:U.h.get S.nx=some (.cells (bL L) false 0):=by rw[hT];exact hblk
     clear hT;refine aY ?_;have hst:=sR (w:=r) hblkT hp;refine d7 p5 p6 p8 w7 @aQ hrem w9 hiad ?_;refine gB (fun call=>by refine dk @eC @cH ?_;exact hst) ?_;refine ae ?_;refine aJ (dh hquo ?_);refine aJ ?_;have w10:=dq j
     refine dk p8 w10 ?_;have hLset:∀q,i+j<q->(L.set (i+j) r).drop q=L.drop q:=fun q hq=>by rw[List.drop_set];simp [show ¬q<=i+j by omega]
     have hLtk:(L.set (i+j) r).take (i+j)=L.take (i+j):=by rw[List.take_set,List.set_eq_of_length_le (by simp;omega)]
     refine⟨k' - 1,au,rfl,j+1,L.set (i+j) r,q,au,by simp [hL],ah p0,ah p1,ah p5,ah p6,af,af,(hS.trans hST).put (Af _) _,Ag hnx hST.1,?_,?_,hc2,?_,?_⟩
     ·simp only;rw[dr,if_pos rfl]
     ·intro z hz;rcases List.mem_or_eq_of_mem_set hz with h | h
      ·exact hLs z h
      ·rw[h];exact hrB
     ·rw[<-Co,hLset _ au,<-Hc,hLd,Hc]
     ·have e1:val ((L.set (i+j) r).take (i+j+1))=val (L.take (i+j))+B ^ (i+j) * r:=by
       rw[fP,hLtk];simp [hp]
      rw[<-Co,e1,eOk,emk,Ci];exact aGw hinv2 (Hd B i j) (by rw[hteq];omega)
    ·refine aM (by simp only[↓stU,aB,rE,↓reduceIte,Aa (show ¬ (j:Int)<(m.length:Int) by omega)]) (bD ?_);refine aj ?_;exact⟨rfl,j,L,c,au,hL,am p0,am p1,am p5,am p6,am p7,am p8,hS,hnx,hblk,hLs,hc,hLd,hinv2⟩
   clear p0 p1 p5 p6;rintro o ⟨F2,inr2⟩ S'' ⟨rfl,p00,j,L,c,hjk,hL,p0,p1,p5,p6,p7,p8,hS,hnx,hblk,hLs,hc,hLd,hinv2⟩;simp only at p00 p0 p1 p5 p6 p7 p8;subst p00;have hj:j=m.length:=by omega
   subst hj;refine aj ?_;have hp:i+m.length<L.length:=by omega
   have w1:IntKind.u32.wrap (c:Int)=(c:Int):=wrap_u32 au au;have hiad:=aFQ (b:=S.nx) (n:=l.length+m.length) (cap:=l.length+m.length) (i:=i+m.length) (o:=false) au;have hst:=sR (w:=c) hblk hp;have w7:IntKind.i64.wrap ((i:Int)+(m.length:Int))=((i+m.length:Nat):Int):=by rw[wrap_i64 au au];omega
   have w10:=dq i
   have hLl:(L.take (i+m.length)).length=i+m.length:=by simp;omega
   have hLsplit:L.set (i+m.length) c=L.take (i+m.length)++ [c]++List.replicate (l.length - (i+1)) 0:=by
    have e1:L=L.take (i+m.length)++List.replicate (l.length - i) 0:=by rw[<-hOd,<-hLd,Bt]
    have e2:l.length - i=l.length+m.length - (L.take (i+m.length)).length:=by rw[hLl];omega
    have e3:l.length - (i+1)=l.length+m.length - ((L.take (i+m.length)).length+1):=by rw[hLl];omega
    have e4:=nS (d:=L.take (i+m.length)) (n:=l.length+m.length) (x:=c) (by rw[hLl];omega);rw[<-e2,<-e3,<-e1,hLl] at e4;exact e4
   rw[hLsplit] at hst;refine aJ ?_;simp only[↓sU,sD,rE,↓reduceIte,rA,p1,p5,p6,p7,hb.len,w7,aQ,w1,hiad];refine gB (fun call=>by refine dk @eC @cH ?_;exact hst) ?_;refine ae ?_;refine aJ (dk p6 w10 ?_);refine⟨k - 1,au,rfl,i+1,L.take (i+m.length)++ [c],au,by rw[Ba,hLl];simp;omega,ah p0,ah p1,ah p5,af,hS.put (Af _) _,hnx,?_,?_,?_⟩
   ·simp only;rw[dr,if_pos rfl]
   ·exact bR.append.2 ⟨hLs.take _,fun z hz=>by simp at hz;rw[hz];exact hc⟩
   ·rw[fK,hLl,etk];rw[hOt,hinv,Dw] at hinv2;rw[Cb,Bf (B ^ (i+m.length)) c,hinv2]
  ·refine aM (by simp only[↓stU,aB,rE,↓reduceIte,Aa (show ¬ (i:Int)<(l.length:Int) by omega)]) (bD ?_);refine aj ?_;have hi:i=l.length:=by omega
   rw[hi,Dw] at hinv;rw[hi,Fk,List.replicate_zero,Cm] at hblk;have hout:=fL (n:=l.length+m.length) (o':=false) (cap:=l.length+m.length) hblk hnx (by rw[hd,hi]) (Af _);refine aY (eo p5 ?_);refine aK (eo p5 ?_);refine aG (qG H hout hsd au) ?_;rintro v S1 ⟨hN,hS1⟩;rw[hS1];try refine aj ?_
   refine aI (aj ?_);exact⟨by rw[<-hinv];exact hN,hS⟩
 ·rw[g1,gF,List.replicate_append_replicate,Gm,Fm]
 ·simp [cN];exact aBk fun z hz=>by simp at hz;exact hz.2
theorem aLA{S:St}{v:AV}{l:bt}(h:bQ S v l):yT v=some l.length/\fE v S.h 1 l.length=some (bL l):=by
 rcases h with⟨h0,h⟩ | ⟨b,off,cap,o,cs,rfl,hc,hb,hcs,hel⟩
 ·simp at h0;subst h0;rcases h with rfl | rfl<;>exact⟨rfl,rfl⟩
 ·refine⟨by show some (l.map Int.ofNat).length=_;rw[Bc],?_⟩;show(aU (bU S.h b) fun cs=>cut cs off (l.length * 1))=_;rw[hcs,aL];have hall:∀i,i<l.length->cs[off+i]? =some (.int .u32 ((l[i]?.getD 0:Nat):Int)):=fun i hi=>by
   refine hel i _ ?_;simp [hi]
  unfold cut;rw[jY,kR,Bp];have hlen:l.length=0\/off+l.length<=cs.length:=by
   rcases Ap l.length with h | hp
   ·exact .inl h
   ·have:=hall (l.length - 1) au;have:=(Aj.1 this).1;omega
  rw[if_pos (by simp;omega)];congr 1;apply List.ext_getElem?;intro i;rw[Ff];split
  ·rename_i hi;rw[Fd,hall i hi];simp [bL,hi]
  ·rename_i hi
   symm
   rw[Dp (by rw[fR];omega)]
theorem aE7{a b:Nat}(h:a≠b):Nat.beq a b=false:=by rw[Bx];intro e;rw[Av] at e;exact h e
theorem aMa{S:St}{v:AV}{l:bt}{bytes:Nat}(h:bQ S v l)(h1:l.length<=room)(h2:l.length * bytes<=room):
  ∃r S',iK bytes 1 .cd v S=some (r,S')/\aCe S S' r l/\Same S S':=by
 have⟨e1,e2⟩:=aLA h;unfold iK;rw[e1,aL,e2,aL];show ∃r S',nV bytes 1 l.length (bL l) S=some (r,S')/\_;unfold nV;rcases Ap l.length with h0 | hp
 ·rw[h0];have:l= []:=Ce.1 h0;subst this;exact⟨.cd,S,rfl,.inl ⟨rfl,rfl⟩,Same.refl S⟩
 ·rw[aE7 (show l.length≠0 by omega),aS,Ai h1,aP,Ai h2,aP];refine⟨_,_,rfl,.inr ⟨S.nx,rfl,Af _,by simp,?_⟩,Same.alloc S _⟩;simp only;rw[dr,if_pos rfl]
theorem aLw{S:St}{b:Nat}{v:AV}{l m:bt}{bytes:Nat}(hb:S.h.get b=some (.cells (bL l) false 0))(hbl:b<S.nx)(h:bQ S v m)(h1:l.length+m.length<=room)(h2:(l.length+m.length) * bytes<=room):
  ∃r S',iK bytes 1 (.sl b 0 l.length l.length false) v S=some (r,S')/\bQ S' r (l++m)/\Same S S':=by
 have⟨e1,e2⟩:=aLA h;unfold iK;rw[e1,aL,e2,aL];show ∃r S',tP bytes 1 b 0 l.length l.length false m.length (bL m) S=some (r,S')/\_;unfold tP;rcases Ap m.length with h0 | hp
 ·have:m= []:=Ce.1 h0;subst this;rw[Ai (by simp),aP];refine⟨.sl b 0 l.length l.length false,S,rfl,?_,Same.refl S⟩;rw[Cm];exact fL hb hbl rfl (Af _)
 ·have e3:Nat.ble (l.length+m.length) l.length=false:=by
   rw[Bx];intro e;have:=Ar e;omega
  rw[e3,aS,Ai h1,aP,Ai h2,aP,hb,aL];have e4:cut (bL l) 0 (l.length * 1)=some (bL l):=by
   unfold cut;rw[jY,kR,Dd,Bp,if_pos (by rw[fR];omega),Am (by rw[fR];omega)]
  show ∃r S',(aU (cut (bL l) 0 (l.length * 1)) fun old=>bM false _ (grown S.h S.nx (l.length+m.length) 1 (qP old (bL m))))=some (r,S')/\_;rw[e4,aL,aS,fB];refine⟨_,_,rfl,?_,Same.alloc S _⟩;refine fL (o:=true) (sz:=1) ?_ (by simp) (by simp) (Af _);simp only;rw[dr,if_pos rfl];simp [bL]
theorem bQ.tail{S:St}{v:AV}{l:bt}(h:bQ S v l){i:Nat}(hi:i<=l.length){F:Fr}{x:cL}(hx:dY (x.val F)=some i):∃u,lA (.slice 1) v (some x) none none F=some u/\bQ S u (l.drop i):=by
 rcases h with⟨h0,h⟩ | ⟨b,off,cap,o,cs,rfl,hc,hb,hcs,hel⟩
 ·simp at h0;subst h0;have hi0:i=0:=by simpa using hi
  subst hi0;rcases h with rfl | rfl
  ·refine⟨.cd,?_,.inl ⟨rfl,.inl rfl⟩⟩;simp only[lA,aGS,iA,gC,aL,hx];rfl
  ·refine⟨.emp,?_,.inl ⟨rfl,.inr rfl⟩⟩;simp only[lA,aHy,iA,gC,aL,hx];rfl
 ·rw[Bc] at hc;have e1:Nat.ble cap cap=true:=Ai (Af _);have e2:Nat.ble l.length cap=true:=Ai hc;have e3:Nat.ble i l.length=true:=Ai hi;simp only[lA,aDm,iA,gC,aL,hx,Bc,e1,e2,e3,aP,Ge];rcases Be i cap with hlt | hge
  ·rw[aE7 (show cap≠i by omega),aS];refine⟨_,rfl,.inr ⟨b,off+i * 1,cap - i,bM o true false,cs,?_,?_,hb,hcs,?_⟩⟩
   ·rw[Bc,Dk]
   ·rw[Bc,Dk];omega
   ·intro j y hj;rw[List.map_drop,Fd] at hj;have:=hel (i+j) y hj;rw[show off+i * 1+j=off+(i+j) by omega];exact this
  ·have hil:i=l.length:=by omega
   have hic:cap=i:=by omega
   rw[show Nat.beq cap i=true by rw[Av];exact hic,aP,Bw au];cases o with
   | true=>exact⟨.emp,rfl,.inl ⟨rfl,.inr rfl⟩⟩
   | false=>exact⟨_,rfl,.inr ⟨b,off,cap - i,false,cs,by rw[List.map_nil,Cd,show l.length - i=0 by omega],by simp,hb,hcs,fun j y hj=>by simp at hj⟩⟩
noncomputable def aIq(v:AV)(i:Nat):AV:=
 match v with
 | .sl b off len cap o=>bM (Nat.beq cap i) (bM (bM o true false) .emp (.sl b off (len - i) (cap - i) false)) (.sl b (off+i * 1) (len - i) (cap - i) (bM o true false))
 | v=>v
theorem bQ.tailE{S:St}{v:AV}{l:bt}(h:bQ S v l){i:Nat}(hi:i<=l.length){F:Fr}{x:cL}(hx:dY (x.val F)=some i):lA (.slice 1) v (some x) none none F=some (aIq v i):=by
 rcases h with⟨h0,h⟩ | ⟨b,off,cap,o,cs,rfl,hc,hb,hcs,hel⟩
 ·simp at h0;subst h0;have hi0:i=0:=by simpa using hi
  subst hi0;rcases h with rfl | rfl
  ·simp only[lA,aGS,iA,gC,aL,hx];rfl
  ·simp only[lA,aHy,iA,gC,aL,hx];rfl
 ·rw[Bc] at hc;have e1:Nat.ble cap cap=true:=Ai (Af _);have e2:Nat.ble l.length cap=true:=Ai hc;have e3:Nat.ble i l.length=true:=Ai hi;simp only[lA,aDm,iA,gC,aL,hx,Bc,e1,e2,e3,aP,Ge,aIq];cases Nat.beq cap i<;>cases o<;>rfl
theorem bQ.tailL{S:St}{v:AV}{l:bt}(h:bQ S v l){i:Nat}(hi:i<=l.length):bQ S (aIq v i) (l.drop i):=by
 have⟨u,h1,h2⟩:=h.tail hi (F:=.e) (x:=.c (.int .i64 (i:Int))) rfl;rw[h.tailE hi (F:=.e) (x:=.c (.int .i64 (i:Int))) rfl] at h1;cases h1;exact h2
theorem aHZ(a b:Nat):lF false [.int .u64 (a:Int),.int .u64 (b:Int)]=some (.int .u64 ((min a b:Nat):Int)):=by
 show jQ false [.int .u64 (b:Int)] (.int .u64 (a:Int))=_;show bM true (jQ false [] (.int .u64 (bM false _ (bM (Nat.ble a b) (a:Int) (b:Int))))) none=_;rw[aP,aS];show some (AV.int .u64 (bM (Nat.ble a b) (a:Int) (b:Int)))=_;rcases Be b a with h | h
 rotate_left
 ·rw[Ai h,aP,Cj h]
 ·have:Nat.ble a b=false:=by rw[Bx];intro e;have:=Ar e;omega
  rw[this,aS,Gt au]
theorem aIl(b:Bool)(l:List cL)(F:Fr)(h:T AB):jK (.dn b l) F h=lF b (cO l F):=rfl
theorem aMZ{R V top P lead t:Nat}(ht:t * V<=R)(hV:top * P<=V)(hR:R<(lead+1) * P)(hP:0<P)(htop:0<top):t<=lead / top:=by
 rw[Nat.le_div_iff_mul_le htop];have h1:t * top * P<=t * V:=by rw[Bl];exact Bb _ hV
 have h2:t * top * P<(lead+1) * P:=by omega
 have:=Ew h2;omega
theorem sG.but{S0 S S':St}{v:AV}{l:bt}{b:Nat}(h:sG S0 S v l)(hs:bN b S S')(hb:b<S0.nx):sG S0 S' v l:=by
 rcases h with h | ⟨c,cap,o,e,s,rest,h1,h2,h3,h4,h5⟩
 ·exact .inl h
 ·exact .inr ⟨c,cap,o,e,s,rest,h1,h2,h3,Ag h4 hs.1,by rw[hs.2 c h4 au];exact h5⟩
theorem aEo.but{S0 S S':St}{v:AV}{n b:Nat}(h:aEo S0 S v n)(hs:bN b S S')(hb:b<S0.nx):aEo S0 S' v n:=by
 have⟨l,h1,h2⟩:=h;exact⟨l,h1.but hs hb,h2⟩
theorem aIM{m:bt}{t f:Nat}(hm:bR (m++ [t]))(hf:f * (t+1)<=B)(hf0:0<f):val (m++ [t]) * f<B ^ (m.length+1):=by
 have h1:=eX (bR.append.1 hm).1;have h2:val (m++ [t])<B ^ m.length * (t+1):=by rw[fK,Ca,Bp];omega
 calc val (m++ [t]) * f<B ^ m.length * (t+1) * f:=Ei h2 hf0
  _=B ^ m.length * (f * (t+1)):=by rw[Bl,Bf (t+1)]
  _<=B ^ m.length * B:=Bb _ hf
  _=B ^ (m.length+1):=by rw[Ci]
def aP5(S0 S1:St)(bq:Nat)(av bv fv:AV)(u v:bt)(top:Nat)(k:Nat)(A:bK)(S':St):Prop:=
 A.inr=false/\∃ (rv:AV) (R:Nat) (qs:bt),k<=u.length - v.length+1/\qs.length+k=u.length - v.length+1/\bR qs/\
  aD 0 A.F=av/\aD 1 A.F=bv/\aD 4 A.F= .sl bq 0 (u.length - v.length+1) (u.length - v.length+1) false/\aD 5 A.F=rv/\aD 6 A.F=fv/\aD 7 A.F= .int .u64 (top:Int)/\aD 8 A.F= .int .i64 (v.length:Int)/\aD 9 A.F= .int .i64 ((k:Int) - 1)/\
  Same S0 S'/\S1.nx<=S'.nx/\S'.h.get bq=some (.cells (bL (List.replicate k 0++qs)) false 0)/\bV S' rv R/\R<val v/\val (u.drop k)=val qs * val v+R/\(k=u.length - v.length+1\/aEo S1 S' rv R)
def aPJ(S:St)(rl:bt)(n:Nat)(F0:Fr)(k:Nat)(A:bK)(S':St):Prop:=
 A.inr=false/\S'=S/\∃j,j<=rl.length/\k=j - (n - 1)/\(j=rl.length\/n - 1<=j)/\(∀i,i<10->aD i A.F=aD i F0)/\aD 10 A.F= .int .u64 ((val (rl.drop j):Nat):Int)/\aD 11 A.F= .int .i64 ((j:Int) - 1)
def aNh(S:St)(V R:Nat)(F0:Fr)(k:Nat)(A:bK)(S':St):Prop:=
 A.inr=false/\Same S S'/\(∀i,i<10->aD i A.F=aD i F0)/\R / V+k<=999999999/\aD 12 A.F= .int .u64 ((R / V+k:Nat):Int)
def aPV(S0 S1:St)(b cap:Nat)(o e:Bool)(s:Nat)(rest rl:bt)(f:Nat)(F0:Fr)(k:Nat)(A:bK)(S':St):Prop:=
 A.inr=false/\∃ (ds:bt) (r:Nat),k<=rl.length/\ds.length+k=rl.length/\bR ds/\r<f/\(∀i,i<10->aD i A.F=aD i F0)/\aD 13 A.F= .int .u64 (r:Int)/\aD 14 A.F= .int .i64 ((k:Int) - 1)/\
  bN b S0 S'/\S'.h.get b=some (.cells (bL (rl.take k++ds++rest)) e s)/\val (rl.drop k)=val ds * f+r
noncomputable def aPl:AC:=
qk1
theorem aQw{S:St}{rv bv:AV}{rl v:bt}{F0 F:Fr}{Q:Out->bK->St->Prop}{c:AC}(hr:bQ S rv rl)(hb:bQ S bv v)(hs:bR rl)(hv0:0<v.length)(hlen:rl.length<=v.length+1)(hv:v.length<=100000)(p1:aD 1 F0=bv)(p5:aD 5 F0=rv)
  (hF:∀i,i<10->aD i F=aD i F0) (p10:aD 10 F= .int .u64 0) (p11:aD 11 F= .int .i64 ((rl.length:Int) - 1))
  (hc:c=aPl) (hQ:∀F',(∀i,i<10->aD i F'=aD i F0)->aD 10 F'= .int .u64 ((val (rl.drop (v.length - 1)):Nat):Int)->Q .normal ⟨F',false⟩ S):oD fns c ⟨F,false⟩ S Q:=by
 have hB:B=1000000000:=rfl;subst hc;refine aO (bJ (aPJ S rl v.length F0) ?_ _ _ _ ⟨rfl,rfl,rl.length,Af _,rfl,.inl rfl,hF,by rw[List.drop_length];exact p10,p11⟩);rintro k ⟨F,inr⟩ S' ⟨q0,hS',j,hj,hk,hor,hF,p10,p11⟩;simp only at q0 hF p10 p11;subst q0;rw[hS'];have e1:=(hF 1 au).trans p1;have e5:=(hF 5 au).trans p5;have w0:IntKind.i64.wrap ((v.length:Int) - 1)=((v.length - 1:Nat):Int):=by rw[wrap_i64 au au];omega
 refine dS (ew e1 p11 hb.len w0 ?_);by_cases hge:v.length<=j
 ·refine aN (by simp only[↓stU,aB,rE,↓reduceIte,Ab (show((v.length - 1:Nat):Int)<=(j:Int) - 1 by omega)]) (aH ?_);refine aj ?_;obtain⟨i,rfl⟩:∃i,j=i+1:=⟨j - 1,au⟩;have hi:i<rl.length:=by omega
  have hld:=hr.ld hi;rw[Ae] at hld;have hlt:=getD_lt hs i;have hvd:=vI hi;generalize rl[i]?.getD 0=x at *;have hd1:val (rl.drop (i+1))<1000000000:=by
   have h1:bR (rl.drop (i+1)):=fun z hz=>hs z (Dh hz);have h2:=eX h1;have h3:(rl.drop (i+1)).length<=1:=by rw[Dk];omega
   have h4:=nO h2 h3;rw[Nat.pow_one] at h4;exact h4
  rw[hB] at hvd;generalize val (rl.drop (i+1))=y at *;have w1:IntKind.u64.wrap ((y:Int) * 1000000000)=((1000000000 * y:Nat):Int):=by rw[wrap_u64 au au];omega
  have w2:IntKind.u64.wrap (x:Int)=(x:Int):=wrap_u64 au au;have w3:IntKind.u64.wrap (((1000000000 * y:Nat):Int)+(x:Int))=((x+1000000000 * y:Nat):Int):=by rw[wrap_u64 au au];omega
  have w4:((i+1:Nat):Int) - 1=(i:Int):=by omega
  have w5:IntKind.i64.wrap ((i:Int) - 1)=(i:Int) - 1:=wrap_i64 au au;rw[w4] at p11;refine aC (aO (aJ ?_));simp only[↓stU,aB,rE,↓reduceIte,e5,p10,p11,w1,w2,w3,aQ,hr.cw hi,hld];refine aJ (er p11 w5 ?_);refine⟨_,?_,rfl,rfl,i,au,rfl,.inr au,?_,by refine⟨?_,?_⟩<;>simp only[↓stU,aB,rE,↓reduceIte,hvd]⟩
  ·omega
  ·intro z hz;simp only[bG,show ∀d,10<=d->(z=d)=False from fun d hd=>by simp;omega,Nat.reduceLeDiff,Bm];exact hF z hz
 ·refine aM (by simp only[↓stU,aB,rE,↓reduceIte,Aa (show ¬ ((v.length - 1:Nat):Int)<=(j:Int) - 1 by omega)]) (bD ?_);refine aj ?_;refine hQ _ ?_ ?_
  ·intro z hz;simp only[bG,show ∀d,10<=d->(z=d)=False from fun d hd=>by simp;omega,Nat.reduceLeDiff,Bm];exact hF z hz
  ·refine eo p10 ?_;rcases hor with h | h
   ·rw[h,List.drop_length,Bw au]
   ·rw[show j=v.length - 1 by omega]
noncomputable def aNC:AC:=
qk0
theorem aOc{x y:Nat}:decide (0<yV x y)=decide (y<x):=by
 unfold yV;split
 ·rw[Aa au,Aa au]
 ·split
  ·rw[Aa au,Aa au]
  ·rw[Ab au,Ab au]
theorem aCi{n:Nat}(h:n<B):tJ n:=by unfold tJ;exact nO (i:=1) (j:=20000) (by rw[Nat.pow_one];exact h) ay
theorem aPO{S:St}{rv bv:AV}{R V d0:Nat}{F0 F:Fr}{Q:Out->bK->St->Prop}{c:AC}(H:Has fns)(hr:bV S rv R)(hb:bV S bv V)(hV:tJ V)(hR:Fits R)(hV0:0<V)(p1:aD 1 F0=bv)(p5:aD 5 F0=rv)
  (hF:∀i,i<10->aD i F=aD i F0) (p12:aD 12 F= .int .u64 (d0:Int)) (hd:R / V<=d0) (hd9:d0<=999999999)
  (hc:c=aNC) (hQ:∀F' S',(∀i,i<10->aD i F'=aD i F0)->aD 12 F'= .int .u64 ((R / V:Nat):Int)->Same S S'->Q .normal ⟨F',false⟩ S'):oD fns c ⟨F,false⟩ S Q:=by
 have hB:B=1000000000:=rfl;subst hc;refine aO (bJ (aNh S V R F0) ?_ (d0 - R / V) _ _ ⟨rfl,Same.refl S,hF,au,by rw[show R / V+(d0 - R / V)=d0 by omega];exact p12⟩);clear hF p12;rintro k ⟨F,inr⟩ S' ⟨q0,hS,hF,hk9,p12⟩;simp only at q0 hF p12;subst q0;have e1:=(hF 1 au).trans p1;have e5:=(hF 5 au).trans p5;have hdm:=Dl R V;have hml:=Dn R hV0;generalize R % V=rm at *;obtain⟨t,ht⟩:∃t,R / V=t:=⟨_,rfl⟩;rw[ht] at p12 hk9 hdm;have hvt:V * (t+k)=V * t+V * k:=Ca ..;have w0:IntKind.u32.wrap ((t+k:Nat):Int)=((t+k:Nat):Int):=wrap_u32 au au;have hlt:t+k<B:=by omega
 refine dS (eu e1 p12 w0 ?_);refine aK (aj ?_);refine aG (wF H hlt) ?_;rintro v1 S1 ⟨h1,s1⟩;try refine aj ?_
 refine aK (aj ?_);refine aG (gL H (hb.same (hS.trans s1)) h1 hV.fits (Fits.of (i:=1) (by rw[Nat.pow_one];exact hlt) ay)) ?_;rintro v2 S2 ⟨h2,s2⟩;refine eo e5 ?_;refine aK (eo e5 ?_);have hS2:=hS.trans (s1.trans s2);refine aG (vT H h2 (hr.same hS2) (tJ.mul hV (aCi hlt))) ?_;rintro v3 S3 ⟨h3,s3⟩;rw[h3];refine eo @aOc ?_;have hS3:=hS2.trans s3;by_cases hk:0<k
 ·have hgt:R<V * (t+k):=by
   have:V * 1<=V * k:=Bb _ hk;omega
  refine aN (by simp only[↓stU,aB,rE,↓reduceIte,Ab hgt]) (aH ?_);refine aj ?_;have w1:IntKind.u64.wrap (((t+k:Nat):Int) - 1)=((t+(k - 1):Nat):Int):=by rw[wrap_u64 au au];omega
  refine aO (aJ ?_);refine er p12 w1 ?_;refine⟨k - 1,au,rfl,hS3,?_,by rw[ht];omega,by rw[ht];simp only[↓stU,aB,rE,↓reduceIte]⟩;intro z hz;simp only[bG,show ∀d,10<=d->(z=d)=False from fun d hd=>by simp;omega,Nat.reduceLeDiff,Bm];exact hF z hz
 ·have hk0:k=0:=by omega
  have hle:¬R<V * (t+k):=by
   rw[hk0,Bi];omega
  refine aM (by simp only[↓stU,aB,rE,↓reduceIte,Aa hle]) (bD ?_);refine aj ?_;refine hQ _ _ ?_ (by rw[ht];simp only[↓stU,aB,rE,↓reduceIte,p12,hk0,Bi]) hS3;intro z hz;simp only[bG,show ∀d,10<=d->(z=d)=False from fun d hd=>by simp;omega,Nat.reduceLeDiff,Bm];exact hF z hz
noncomputable def aPd:AC:=
qk2
theorem aQB{S1 S0:St}{rv fv:AV}{rl:bt}{f:Nat}{F0 F:Fr}{Q:Out->bK->St->Prop}{c:AC}(hr:sG S1 S0 rv rl)(hs:bR rl)(hlen:rl.length<=100001)(hf0:0<f)(hfB:f<B)(hfv:∀b S',S1.nx<=b->bN b S0 S'->bQ S' fv [f])(p5:aD 5 F0=rv)(p6:aD 6 F0=fv)
  (hF:∀i,i<10->aD i F=aD i F0) (p13:aD 13 F= .int .u64 0) (p14:aD 14 F= .int .i64 ((rl.length:Int) - 1))
  (hc:c=aPd) (hQ:∀F' S' ds b,(∀i,i<10->aD i F'=aD i F0)->bQ S' rv ds->bR ds->val ds=val rl / f->ds.length=rl.length->S1.nx<=b->bN b S0 S'->Q .normal ⟨F',false⟩ S'):oD fns c ⟨F,false⟩ S0 Q:=by
 have hB:B=1000000000:=rfl;subst hc;rcases id hr with⟨rfl,rfl⟩ | ⟨b,cap,o,e,s,rest,hrv,hcap,hb1,hb2,hblk⟩
 ·refine aO (bJ (fun k A S'=>k=0/\A=⟨F,false⟩/\S'=S0) ?_ 0 _ _ ⟨rfl,rfl,rfl⟩);rintro k A S' ⟨_,hA,hS'⟩;rw[hA,hS'];refine dS (eo p14 ?_);refine aM (by simp only[↓stU,aB,rE,↓reduceIte,Aa (show ¬ (0:Int)<=(([]:bt).length:Int) - 1 by simp)]) (bD ?_);refine aj ?_;refine hQ _ _ [] S1.nx ?_ hr.limbs bR.nil (by simp [cN]) rfl (Af _) (bN.refl _ _);intro z hz;simp only[bG,show ∀d,10<=d->(z=d)=False from fun d hd=>by simp;omega,Nat.reduceLeDiff,Bm];exact hF z hz
 refine aO (bJ (aPV S0 S1 b cap o e s rest rl f F0) ?_ rl.length _ _ ⟨rfl,[],0,Af _,by simp,bR.nil,hf0,hF,p13,p14,bN.refl _ _,by rw[Dw,Cm];exact hblk,by rw[List.drop_length];simp [cN]⟩);clear hF p13 p14;rintro k ⟨F,inr⟩ S' ⟨q0,ds,r,hk,hds,hsd,hrf,hF,p13,p14,hS,hblk',hinv⟩;simp only at q0 hF p13 p14;subst q0;have e5:=(hF 5 au).trans p5;have e6:=(hF 6 au).trans p6;have hfl:=hfv b S' hb1 hS;have hfi:=hfl.cw (i:=0) (by simp);have hfd:=hfl.ld (i:=0) (by simp);rw[show [f].getD 0 0=f from rfl] at hfd;refine dS (eo p14 ?_);by_cases hk0:0<k
 ·refine aN (by simp only[↓stU,aB,rE,↓reduceIte,Ab (show(0:Int)<=(k:Int) - 1 by omega)]) (aH ?_);refine aj ?_;obtain⟨i,rfl⟩:∃i,k=i+1:=⟨k - 1,au⟩;have hi:i<rl.length:=by omega
  have hpos:i<(rl.take (i+1)++ds++rest).length:=by simp;omega
  have hld:=yJ hblk' hpos;have hget:(rl.take (i+1)++ds++rest)[i]? =rl[i]? :=by
   rw[Bn,Ay (by simp;omega),Ff,if_pos au]
  rw[hget] at hld;have hlt:=getD_lt hs i;have hvd:=vI hi;have htk:rl.take (i+1)=rl.take i++ [rl[i]?.getD 0]:=by rw[Cz,Ad hi];rfl
  generalize rl[i]?.getD 0=x at *;have w4:((i+1:Nat):Int) - 1=(i:Int):=by omega
  rw[w4] at p14;have hrb:r * 1000000000+x<=999999999 * 1000000000+999999999:=by omega
  have w1:IntKind.u64.wrap ((r:Int) * 1000000000)=((r * 1000000000:Nat):Int):=by rw[wrap_u64 au au];omega
  have w2:IntKind.u64.wrap (x:Int)=(x:Int):=wrap_u64 au au;have w3:IntKind.u64.wrap (((r * 1000000000:Nat):Int)+(x:Int))=((r * 1000000000+x:Nat):Int):=by rw[wrap_u64 au au];omega
  have w6:IntKind.u64.wrap (f:Int)=(f:Int):=wrap_u64 au au;have w5:IntKind.i64.wrap ((i:Int) - 1)=(i:Int) - 1:=wrap_i64 au au;have hia:dN (.slice 1) rv i=some (.ptr b i):=by rw[hrv];exact aFQ hi
  refine aC (aO (aC (aJ ?_)));simp only[↓stU,aB,rE,↓reduceIte,e5,p13,p14,w1,w2,w3,aQ,hia,hld];have hfit:r * 1000000000+x<f * B:=by
   have:(r+1) * 1000000000<=f * 1000000000:=Aq _ hrf;rw[hB];omega
  have hvi:x+B * val (rl.drop (i+1))=B * (val ds * f)+(r * 1000000000+x):=by rw[hinv,Ca,hB];omega
  obtain⟨t,ht⟩:∃t,r * 1000000000+x=t:=⟨_,rfl⟩;rw[ht] at hrb hfit hvi;simp only[ht];have hquo:=iT (.p .int) (t:=t) (d:=f) au hf0;have hrem:=qW (.p .int) (t:=t) (d:=f) hf0;have hdm:=Dl t f;have hml:=Dn t hf0;have hwB:t / f<B:=by rw[Dq hf0,Bf];exact hfit
  generalize t / f=w at *;generalize t % f=r' at *;have w7:IntKind.u32.wrap (w:Int)=(w:Int):=wrap_u32 au au;have hst:=sR (w:=w) hblk' hpos;refine aY ?_;simp only[↓stU,aB,rE,↓reduceIte,e5,e6,p14,aQ,aF7,hfi,hfd,w6,hquo,w7,hia];refine gB (fun call=>by refine er @eC @cH ?_;exact hst) ?_;refine aj ?_;obtain⟨S2,hS2e⟩:∃S2:St,S2=⟨S'.h.set b (some (.cells (bL ((rl.take (i+1)++ds++rest).set i w)) e s)),S'.nx⟩:=⟨_,rfl⟩;rw[<-hS2e];have hS2:bN b S0 S2:=by rw[hS2e];exact hS.put _
  have hblk2:S2.h.get b=some (.cells (bL (rl.take i++(w::ds)++rest)) e s):=by
   rw[hS2e];simp only;rw[dr,if_pos rfl,htk];congr 3;rw[Bn,Bn,List.set_append_right _ _ (by simp;omega),Bh,Cj au,Fk];simp
  clear hS2e;have hfl2:=hfv b S2 hb1 hS2;have hfi2:=hfl2.cw (i:=0) (by simp);have hfd2:=hfl2.ld (i:=0) (by simp);rw[show [f].getD 0 0=f from rfl] at hfd2;refine aJ (e9 e6 @aF7 hfi2 hfd2 w6 hrem ?_);refine aJ (er p14 w5 ?_);refine⟨i,au,rfl,w::ds,r',au,by simp;omega,bR.cons.2 ⟨hwB,hsd⟩,hml,?_,ak,ak,hS2,hblk2,?_⟩
  ·intro z hz;simp only[bG,show ∀d,10<=d->(z=d)=False from fun d hd=>by simp;omega,Nat.reduceLeDiff,Bm];exact hF z hz
  ·rw[hvd,hvi,dM,Cb,Bl];have:w * f=f * w:=Bf ..;omega
 ·have hk0:k=0:=by omega
  subst hk0;refine aM (by simp only[↓stU,aB,rE,↓reduceIte,show decide ((0:Int)<=((0:Nat):Int) - 1)=false from rfl];try rfl) (bD ?_);refine aj ?_;rw[Fq,Cn] at hblk';have hdl:ds.length=rl.length:=by omega
  refine hQ _ _ ds b ?_ ?_ hsd ?_ hdl hb1 hS
  ·intro z hz;simp only[bG,show ∀d,10<=d->(z=d)=False from fun d hd=>by simp;omega,Nat.reduceLeDiff,Bm];exact hF z hz
  ·rw[hrv,<-hdl];exact uE hblk' (Ag hb2 hS.1) au
  ·rw[Dd] at hinv;rw[hinv,Bf,Nat.mul_add_div hf0,Gv hrf,Bi]
theorem aL3{W:Nat->Prop}{h0:T AB}{base i:Nat}{l:List AO}{F:Fr}{S:St}{ps:List kQ}{last:Option Nat}{Q:Fr->St->List kQ->Prop}{d:Option Nat}{m t size bytes:Nat}{s x:cL}{r:AV}{S1:St}(h:nL last m=true)(he:iK bytes size (s.val F) (x.val F) ⟨(cA m ps S.h).2,S.nx⟩=some (r,S1))(ho:aKa W base ⟨(cA m ps S.h).2,S.nx⟩ S1)(hr:iD fns W h0 base l (i+1) (cB d F r) S1 (cA m ps S.h).1 (some i) Q):iD fns W h0 base (⟨d,.x (.app t size bytes s x),none,m⟩::l) i F S ps last Q:=by
 unfold iD;rw[if_pos (show fI none F=true from rfl)];exact⟨h,_,S1,fun call=>he,ho,hr⟩
theorem aBr{m j id:Nat}{bl:AB}{h:T AB}(ht:Nat.testBit m j=false):cA m [⟨j,id,bl⟩] h=([⟨j,id,bl⟩],h):=by
 unfold cA;rw[show Nat.testBit m (kQ.mk j id bl).i=false from ht,aS];rfl
theorem aPp{t:Nat}(ht:t<=999999999):kH .quo (.p .int) (.int .u64 1000000000) (.int .u64 ((t+1:Nat):Int))=some (.int .u64 ((B / (t+1):Nat):Int)):=iT (.p .int) (t:=B) (d:=t+1) ay au
theorem aDy{l m:bt}(hl:jM l)(hm:jM m)(h:val m<=val l):m.length<=l.length:=by
 rcases Be l.length m.length with h1 | h1
 ·have:=fF hl.1 hm h1;omega
 ·exact h1
theorem aE4{l:bt}(h:jM l)(i:Nat):jM (l.drop i):=by
 refine⟨fun z hz=>h.1 z (Dh hz),?_⟩;rcases Be i l.length with hi | hi
 ·rw[List.getLast?_drop,if_neg au];exact h.2
 ·rw[Bw hi];simp
theorem aES{l:bt}(h:jM l)(h0:0<val l):∃m t,l=m++ [t]/\0<t/\t<B:=by
 have hne:l≠ []:=fun e=>by subst e;simp [cN] at h0
 refine⟨l.dropLast,l.getLast hne,(Eq hne).symm,?_,h.1 _ (List.getLast_mem hne)⟩;rcases Ap (l.getLast hne) with h1 | h1
 ·exact absurd (by rw[List.getLast?_eq_some_getLast hne,h1]) h.2
 ·exact h1
theorem aEo.lowN{S0 S1 S:St}{v:AV}{n:Nat}(h:aEo S1 S v n)(hS:S0.nx<=S1.nx):aEo S0 S v n:=by
 have⟨l,h1,h2⟩:=h;refine⟨l,?_,h2⟩;rcases h1 with h | ⟨b,cap,o,e,s,rest,k1,k2,k3,k4⟩
 ·exact .inl h
 ·exact .inr ⟨b,cap,o,e,s,rest,k1,k2,Bd hS k3,k4⟩
theorem aOu{S:St}{v:AV}{f:Nat}(h:bV S v f)(h0:0<f)(hB:f<B):bQ S v [f]:=by
 have⟨l,h1,h2,h3⟩:=h;have hn:jM [f]:=⟨lB hB,by simp;omega⟩;rw[<-aAt h2 hn (by rw[h3];simp [dM,cN])];exact h1
theorem pU{S:St}{a b:AV}{x y:Nat}(H:Has fns)(ha:bV S a x)(hb:bV S b y){K:Nat}(hx:x<B ^ K)(hK:K<=19000)(hy0:0<y):eR fns (.fn 88 [] []) [a,b] S fun r S'=>∃q u,r= .tup [q,u]/\bV S' q (x / y)/\bV S' u (x % y)/\Same S S':=by
 have hB:B=1000000000:=rfl;have hxF:Fits x:=Fits.of hx au;refine bE H.f88 (by simp) ?_;refine aj ?_;refine aY (aj ?_);refine dS (aj ?_);refine aK (aj ?_);refine aG (vT H ha hb hxF) ?_;rintro c T1 ⟨hc,hT1⟩;rw[hc];refine eo @aFf ?_;by_cases hlt:x<y
 ·refine aN (by simp only[↓stU,aB,rE,↓reduceIte,Ab hlt]) ?_;refine aY (aj ?_);refine aI (aj ?_);refine⟨_,_,rfl,?_,?_,hT1⟩
  ·rw[Gv hlt];exact aFb
  ·rw[Ek hlt];exact ha.same hT1
 refine aM (by simp only[↓stU,aB,rE,↓reduceIte,Aa hlt]) (aH ?_);refine aj ?_;have ha1:=ha.same hT1;have hb1:=hb.same hT1;have⟨l,hla,hl,hlx⟩:=id ha1;have⟨m,hmb,hm,hmy⟩:=id hb1;obtain⟨m',t,rfl,ht0,htB⟩:=aES hm au;have⟨hf0,hf1,_,hf2⟩:=aED ht0 htB;have hflen:=aIM hm.1 hf1 hf0;have hyx:y<=x:=by omega
 have hml:(m'++ [t]).length<=K:=pQ hm (by rw[hmy];omega);have hmlen:(m'++ [t]).length=m'.length+1:=by simp
 have hbl:=hmb.len;have hbi:=hmb.cw (i:=m'.length) au;have hbd:=hmb.ld (i:=m'.length) au;rw[show(m'++ [t]).getD m'.length 0=t by simp] at hbd;rw[hmlen] at hbl;have w0:IntKind.i64.wrap (((m'.length+1:Nat):Int) - 1)=(m'.length:Int):=by rw[wrap_i64 au au];omega
 have w1:IntKind.u64.wrap (t:Int)=(t:Int):=wrap_u64 au au;have w2:IntKind.u64.wrap ((t:Int)+1)=((t+1:Nat):Int):=by rw[wrap_u64 au au];omega
 have hq:=aPp (t:=t) au;rw[hmy] at hflen;generalize B / (t+1)=f at *;have w3:IntKind.u32.wrap (f:Int)=(f:Int):=wrap_u32 au au;have hfB:f<B:=by omega
 refine aY ?_;simp only[↓stU,aB,rE,↓reduceIte,hbl,w0,aQ,hbi,hbd,w1,w2,hq,w3];refine aK (aj ?_);refine aG (wF H hfB) ?_;rintro fv T2 ⟨hf,hT2⟩;try refine aj ?_
 refine aY (aj ?_);refine aK (aj ?_);refine aG (gL H (ha1.same hT2) hf hxF (aCi hfB).fits) ?_;rintro av T3 ⟨hav,hT3⟩;try refine aj ?_
 refine aK (aj ?_);refine aG (gL H (hb1.same (hT2.trans hT3)) (hf.same hT3) (hxF.mono hyx) (aCi hfB).fits) ?_;rintro bv S0 ⟨hbv,hT4⟩;try refine aj ?_
 have hav:=hav.same hT4;have hfv:=hf.same (hT3.trans hT4);have hST:Same S S0:=hT1.trans (hT2.trans (hT3.trans hT4));have⟨u,hua,hu,hux⟩:=id hav;have⟨v,hvb,hv,hvy⟩:=id hbv;have hVpos:0<val v:=by rw[hvy];exact Em hy0 hf0
 have⟨v',top,hve,htop,htopB⟩:=aES hv hVpos;have hvl:v.length<=m'.length+1:=pQ hv (by rw[hvy];exact hflen);have hvlen:v.length=v'.length+1:=by rw[hve];simp
 have huN:v.length<=u.length:=aDy hu hv (by rw[hux,hvy];exact Aq _ hyx);have hul:u.length<=K+1:=pQ hu (by rw[hux];exact fD (i:=K) (j:=1) hx (by rw[Nat.pow_one];exact hfB));have hHV:tJ (val v):=by unfold tJ;exact nO (j:=20000) (eX hv.1) au
 have hul':=hua.len;have hvl':=hvb.len;have hvi:=hvb.cw (i:=v'.length) au;have hvd:=hvb.ld (i:=v'.length) au;rw[show v.getD v'.length 0=top by rw[hve];simp] at hvd;have w4:IntKind.i64.wrap ((v.length:Int) - 1)=(v'.length:Int):=by rw[wrap_i64 au au];omega
 have w5:IntKind.u64.wrap (top:Int)=(top:Int):=wrap_u64 au au;refine aY (e9 hvl' w4 @aQ hvi hvd w5 ?_);refine aY (eo hvl' ?_);have w6:IntKind.i64.wrap ((u.length:Int) - (v.length:Int))=((u.length - v.length:Nat):Int):=by rw[wrap_i64 au au];omega
 have w7:IntKind.i64.wrap (((u.length - v.length:Nat):Int)+1)=((u.length - v.length+1:Nat):Int):=by rw[wrap_i64 au au];omega
 refine aC (aCn (fun _=>False) ?_);refine dm hul' w6 w7 ?_;rw[kZ (n:=u.length - v.length+1) (by simp only[↓sU,sD,rE,↓reduceIte,rA,aQ]) (by simp only[↓sU,sD,rE,↓reduceIte,rA,aQ]) ax ax];refine dm hul' w6 w7 ?_;have htail:=hua.tailL (i:=u.length - v.length+1) au;rw[hua.tailE (i:=u.length - v.length+1) au (by simp only[↓sU,sD,rE,↓reduceIte,rA,aQ])];refine ae ?_;obtain⟨Sp,hSp⟩:∃Sp:St,Sp=⟨S0.h,S0.nx+17⟩:=⟨_,rfl⟩;have hS0p:Same S0 Sp:=by rw[hSp];exact Same.nx S0 17
 have⟨r0,S1,happ,hg0,hS1⟩:=aMa (S:=Sp) (bytes:=4) (htail.same hS0p) (by rw[Dk];unfold room;omega) (by rw[Dk];unfold room;omega);have hpn:Sp.nx=S0.nx+17:=by rw[hSp]
 refine aL3 rfl (by rw[aBr rfl];refine ae ?_;rw[<-hSp];exact happ) ?_ ?_
 ·rw[aBr rfl];exact⟨by rw[<-hpn];exact hS1.1,fun b hb _=>by rw[hS1.2 b au,hSp]⟩
 rw[aBr rfl];refine ae ?_;rw[nG ay];try refine ae ?_
 obtain⟨bq,hbq⟩:∃bq,bq=S0.nx+5:=⟨_,rfl⟩;rw[<-hbq];obtain⟨S2,hS2⟩:∃S2:St,S2=⟨S1.h.set bq (some (.cells (repeatL [AV.int .u32 0] (u.length - v.length+1)) false 0)),S1.nx⟩:=⟨_,rfl⟩;rw[<-hS2];have hn1:Sp.nx<=S1.nx:=hS1.1;have hn2:S2.nx=S1.nx:=by rw[hS2]
 have hS02:Same S0 S2:=by rw[hS2];exact(hS0p.trans hS1).put au _
 have hb2:bN bq S1 S2:=by rw[hS2];exact(bN.refl bq S1).put _
 have hblk:S2.h.get bq=some (.cells (bL (List.replicate (u.length - v.length+1) 0++ [])) false 0):=by
  rw[hS2,Cm,<-gF];simp only;rw[dr,if_pos rfl]
 have hr0:bV S2 r0 (val (u.drop (u.length - v.length+1))):=⟨_,(hg0.own.but hb2 au).limbs,aE4 hu _,rfl⟩;have hR0:val (u.drop (u.length - v.length+1))<val v:=by
  have h1:=eX (aE4 hu (u.length - v.length+1)).1;have h2:=aAw hv (fun e=>by rw[e] at hvlen;simp at hvlen);rw[Dk,show u.length - (u.length - v.length+1)=v.length - 1 by omega] at h1;omega
 clear hS2 happ hSp;refine dS (er hul' w6 ?_);refine aO (bJ (aP5 S0 S2 bq av bv fv u v top) ?_ (u.length - v.length+1) _ _ ⟨rfl,r0,_,[],Af _,by simp,bR.nil,ak,ak,ak,ak,ak,ak,ak,by simp only[↓stU,aB,rE,↓reduceIte];congr 1;omega,hS02,Af _,hblk,hr0,hR0,by simp [cN],.inl rfl⟩);clear hr0 hR0 hblk hb2;rintro k ⟨F,inr⟩ S' ⟨q0,rv,R,qs,hkn,hqs,hsq,p0,p1,p4,p5,p6,p7,p8,p9,hS,hnx,hblk,hr,hRV,hinv,hor⟩;simp only at q0 p0 p1 p4 p5 p6 p7 p8 p9;subst q0;refine dS (eo p9 ?_);by_cases hk0:0<k
 ·refine aN (by simp only[↓stU,aB,rE,↓reduceIte,Ab (show(0:Int)<=(k:Int) - 1 by omega)]) (aH ?_);refine aj ?_;obtain⟨i,rfl⟩:∃i,k=i+1:=⟨k - 1,au⟩;have hi:i<u.length:=by omega
  have w8:((i+1:Nat):Int) - 1=(i:Int):=by omega
  rw[w8] at p9;have hua':=hua.same hS;have hld:=hua'.ld hi;rw[Ae] at hld;have hlt:=getD_lt hu.1 i;have hvdr:=vI hi;generalize u[i]?.getD 0=ui at *;have⟨rl,hrl,hrn,hrR⟩:=id hr;have hrlen:rl.length<=v.length:=pQ hrn (by rw[hrR];exact Nat.lt_trans hRV (eX hv.1));refine aC (aO (aC (aJ ?_)));refine e7 p0 p9 @aQ (hua.cw hi) hld ?_;refine nJ (jW (k:=.u32) (n:=(ui:Int)) (ak)) ?_;intro S3 s3 n3 g3;refine eo p5 ?_;have⟨r1,S4,happ,hr1,s4⟩:=aLw (S:=S3) (b:=S'.nx) (l:=[ui]) (bytes:=4) g3 au (hrl.same s3) (by simp;unfold room;omega) (by simp;unfold room;omega);refine gB (fun call=>by refine er @tR p5 ?_;exact happ) ?_;try refine aj ?_
  refine aK (aj ?_);have hsm:bR ([ui]++rl):=bR.append.2 ⟨lB hlt,hrn.1⟩;refine aG (qG H hr1 hsm (by simp;omega)) ?_;rintro r2 S5 ⟨hr2,hS5⟩;rw[hS5];clear hS5;have hval:val ([ui]++rl)=ui+B * R:=by rw[show [ui]++rl=ui::rl from rfl,dM,hrR]
  rw[hval] at hr2;have hS4:Same S' S4:=s3.trans s4;have hBV:ui+B * R<B * val v:=by
   have:B * (R+1)<=B * val v:=Bb _ hRV;rw[Ca,Bp] at this;omega
  obtain⟨R',hR'⟩:∃R',ui+B * R=R':=⟨_,rfl⟩;rw[hR'] at hr2 hBV;have⟨rl2,hrl2,hrn2,hrR2⟩:=id hr2;have hR'P:R'<B ^ (v.length+1):=by
   have h1:B * val v<B * B ^ v.length:=Nat.mul_lt_mul_of_pos_left (eX hv.1) gS;rw[Ci,Bf _ B];omega
  have hrlen2:rl2.length<=v.length+1:=pQ hrn2 (by rw[hrR2];exact hR'P);have hR'F:Fits R':=Fits.of hR'P au;try refine aj ?_
  refine aY (aj ?_);refine dS ?_;have w9:IntKind.i64.wrap ((rl2.length:Int) - 1)=(rl2.length:Int) - 1:=wrap_i64 au au;refine er hrl2.len w9 ?_;refine aQw (rl:=rl2) (v:=v) (rv:=r2) (bv:=bv) hrl2 (hvb.same (hS.trans hS4)) hrn2.1 au hrlen2 au ?_ ?_ (fun _ _=>rfl) ?_ ?_ rfl ?_
  ·simp only[↓stU,aB,rE,↓reduceIte,p1]
  ·simp only[↓stU,aB,rE,↓reduceIte]
  ·simp only[↓stU,aB,rE,↓reduceIte]
  ·simp only[↓stU,aB,rE,↓reduceIte]
  intro F1 k1 p10;have z0:aD 0 F1=av:=(k1 0 au).trans (am p0);have z1:aD 1 F1=bv:=(k1 1 au).trans (am p1);have z4:aD 4 F1= .sl bq 0 (u.length - v.length+1) (u.length - v.length+1) false:=(k1 4 au).trans (am p4);have z5:aD 5 F1=r2:=(k1 5 au).trans (ak);have z6:aD 6 F1=fv:=(k1 6 au).trans (am p6);have z7:aD 7 F1= .int .u64 (top:Int):=(k1 7 au).trans (am p7);have z8:aD 8 F1= .int .i64 (v.length:Int):=(k1 8 au).trans (am p8);have z9:aD 9 F1= .int .i64 (i:Int):=(k1 9 au).trans (am p9);clear k1 p0 p1 p4 p5 p6 p7 p8 p9;refine aj ?_;have hsplit:rl2=rl2.take (v.length - 1)++rl2.drop (v.length - 1):=(Bt _ _).symm;have hleadR:R'<(val (rl2.drop (v.length - 1))+1) * B ^ (v.length - 1):=by
   have h1:=eX (hrn2.1.take (v.length - 1));have h2:=nO h1 (show(rl2.take (v.length - 1)).length<=v.length - 1 by rw[Bh];omega);have h3:=val_append (rl2.take (v.length - 1)) (rl2.drop (v.length - 1));rw[<-hsplit,hrR2] at h3;rw[Cb,Nat.one_mul];rcases Be rl2.length (v.length - 1) with h4 | h4
   ·rw[Bw au] at h3 ⊢;simp only[cN,Hg,Bi,Hf,Au] at h3 ⊢;omega
   ·rw[Bh,Cj h4,Bf] at h3;omega
  have hleadB:val (rl2.drop (v.length - 1))<1000000000000000000:=by
   have h1:bR (rl2.drop (v.length - 1)):=fun z hz=>hrn2.1 z (Dh hz);have h2:=nO (eX h1) (show(rl2.drop (v.length - 1)).length<=2 by rw[Dk];omega);exact h2
  generalize val (rl2.drop (v.length - 1))=lead at *;have hVtop:top * B ^ (v.length - 1)<=val v:=by
   rw[hve,fK,show(v'++ [top]).length - 1=v'.length by simp,Bf];exact Nat.le_add_left _ _
  have htd:R' / val v<=lead / top:=aMZ (Nat.div_mul_le_self _ _) hVtop hleadR (xP _) htop;have htB:R' / val v<B:=by rw[Dq hVpos];exact hBV
  have hquo:=iT (.p .int) (t:=lead) (d:=top) au htop;generalize lead / top=g at *;have hmm:lF false [.int .u64 (g:Int),.int .u64 999999999]=some (.int .u64 ((min g 999999999:Nat):Int)):=aHZ g 999999999;refine aY (fa p10 z7 hquo @aIl @jL @nH hmm ?_);refine aC (aPO (R:=R') (V:=val v) (d0:=min g 999999999) (rv:=r2) (bv:=bv) H hr2 ⟨v,hvb.same (hS.trans hS4),hv,rfl⟩ hHV hR'F hVpos ?_ ?_ (fun _ _=>rfl) ?_ au au  rfl ?_)
  ·simp only[↓stU,aB,rE,↓reduceIte,z1]
  ·simp only[↓stU,aB,rE,↓reduceIte,z5]
  ·simp only[↓stU,aB,rE,↓reduceIte]
  intro F2 S6 k2 p12 s6;have y0:aD 0 F2=av:=(k2 0 au).trans (am z0);have y1:aD 1 F2=bv:=(k2 1 au).trans (am z1);have y4:aD 4 F2= .sl bq 0 (u.length - v.length+1) (u.length - v.length+1) false:=(k2 4 au).trans (am z4);have y5:aD 5 F2=r2:=(k2 5 au).trans (am z5);have y6:aD 6 F2=fv:=(k2 6 au).trans (am z6);have y7:aD 7 F2= .int .u64 (top:Int):=(k2 7 au).trans (am z7);have y8:aD 8 F2= .int .i64 (v.length:Int):=(k2 8 au).trans (am z8);have y9:aD 9 F2= .int .i64 (i:Int):=(k2 9 au).trans (am z9);clear k2 z0 z1 z4 z5 z6 z7 z8 z9 p10;try refine aj ?_
  have hS6:Same S' S6:=hS4.trans s6;have hdm:=Dl R' (val v);have hml:=Dn R' hVpos;generalize hRd:R' / val v=d at *;generalize hRm:R' % val v=R2 at *;have hdR:val v * d<=R':=by omega
  have w10:IntKind.u32.wrap (d:Int)=(d:Int):=wrap_u32 au au;refine aJ (e9 y1 y4 y5 y9 p12 w10 ?_);refine aK (aj ?_);refine aG (wF H htB) ?_;rintro v1 S7 ⟨h1,s7⟩;try refine aj ?_
  refine aK (aj ?_);refine aG (gL H (⟨v,hvb.same (hS.trans (hS6.trans s7)),hv,rfl⟩:bV S7 bv (val v)) h1 hHV.fits (aCi htB).fits) ?_;rintro v2 S8 ⟨h2,s8⟩;try refine aj ?_
  refine aK (aj ?_);refine aG (wG H (hr2.same (s6.trans (s7.trans s8))) h2 hR'F hdR) ?_;rintro v3 S9 ⟨h3,s9⟩;rw[show R' - val v * d=R2 by omega] at h3;have hS9:Same S' S9:=hS6.trans (s7.trans (s8.trans s9));have n8:S2.nx<=S8.nx:=Bd hnx (hS6.trans (s7.trans s8)).1;have hbq9:bq<S2.nx:=by omega
  have hblk9:S9.h.get bq=some (.cells (bL (List.replicate (i+1) 0++qs)) false 0):=by rw[hS9.2 _ au];exact hblk
  have hst:=sR (w:=d) hblk9 (p:=i) (by simp;omega);rw[aGi] at hst;simp only[↓stU,aB,rE,↓reduceIte,y4,y9,p12,w10,aQ,aFQ (show i<u.length - v.length+1 by omega)];refine gB (fun call=>by simp only[↓stU,aB,rE,↓reduceIte,eC,cH];exact hst) ?_;refine aj ?_;obtain⟨SA,hSA⟩:∃SA:St,SA=⟨S9.h.set bq (some (.cells (bL (List.replicate i 0++(d::qs))) false 0)),S9.nx⟩:=⟨_,rfl⟩;rw[<-hSA];have hSAb:bN bq S9 SA:=by rw[hSA];exact(bN.refl bq S9).put _
  have hSA0:Same S0 SA:=hSAb.same (hS.trans hS9) au;have hSAn:SA.nx=S9.nx:=by rw[hSA]
  have hblkA:SA.h.get bq=some (.cells (bL (List.replicate i 0++(d::qs))) false 0):=by
   rw[hSA];simp only;rw[dr,if_pos rfl]
  clear hSA;have h3A:=(h3.lowN n8).but hSAb hbq9;have w11:IntKind.i64.wrap ((i:Int) - 1)=(i:Int) - 1:=wrap_i64 au au;refine aJ (er y9 w11 ?_);refine⟨i,au,rfl,v3,R2,d::qs,au,by simp;omega,bR.cons.2 ⟨htB,hsq⟩,am y0,am y1,am y4,ak,am y6,am y7,am y8,ak,hSA0,?_,hblkA,h3A.nat,hml,?_,.inr h3A⟩
  ·have:=hS9.1;omega
  ·rw[hvdr,hinv,dM,Ca,Cb,Bl,Bf d];omega
 ·have hk:k=0:=by omega
  subst hk;refine aM (by simp only[↓stU,aB,rE,↓reduceIte,show decide ((0:Int)<=((0:Nat):Int) - 1)=false from rfl];try rfl) (bD ?_);refine aj ?_;rcases hor with h | hown
  ·omega
  have⟨rl,hrl,hrn,hrR⟩:=id hown;have hrlen:rl.length<=v.length:=pQ hrn (by rw[hrR];exact Nat.lt_trans hRV (eX hv.1));rw[Dd,hux,hvy] at hinv;rw[hvy] at hRV;have⟨hq1,hq2⟩:=aJB hf0 hinv hRV;rw[List.replicate_zero,Cn] at hblk;have w9:IntKind.i64.wrap ((rl.length:Int) - 1)=(rl.length:Int) - 1:=wrap_i64 au au;have hf1':=aOu hfv hf0 hfB;refine aY (aj ?_);refine dS (eu p5 hrl.limbs.len w9 ?_);refine aQB (S1:=S2) (rl:=rl) (rv:=rv) (fv:=fv) (f:=f) hrl hrn.1 au hf0 hfB ?_ ?_ ?_ (fun _ _=>rfl) ?_ ?_ rfl ?_
  ·intro b SB hb hSB;exact hf1'.same (hSB.same hS (Bd hS02.1 hb))
  ·simp only[↓stU,aB,rE,↓reduceIte,p5]
  ·simp only[↓stU,aB,rE,↓reduceIte,p6]
  ·simp only[↓stU,aB,rE,↓reduceIte]
  ·simp only[↓stU,aB,rE,↓reduceIte]
  intro F1 SB ds b k1 hds hsds hvds hdl hb hSB;have z4:aD 4 F1= .sl bq 0 (u.length - v.length+1) (u.length - v.length+1) false:=(k1 4 au).trans (am p4);have z5:aD 5 F1=rv:=(k1 5 au).trans (am p5);clear k1;have hSS:Same S SB:=hST.trans (hSB.same hS (Bd hS02.1 hb));have hblkB:SB.h.get bq=some (.cells (bL qs) false 0):=by rw[hSB.2 _ au au];exact hblk
  have hqL:bQ SB (.sl bq 0 (u.length - v.length+1) (u.length - v.length+1) false) qs:=fL hblkB (aw hSB.1) au (Af _);try refine aj ?_
  refine aY (er z4 z5 ?_);refine aK (aj ?_);refine aG (qG H hqL hsq au) ?_;rintro q1 SC ⟨hq,hSC⟩;rw[hSC];try simp only[↓stU,aB,rE,↓reduceIte,z5]
  refine aK (eo z5 ?_);refine aG (qG H hds hsds au) ?_;rintro r1 SD ⟨hr1,hSD⟩;rw[hSD];try refine aj ?_
  refine aI (aj ?_);rw[hvds,hrR,hq2] at hr1;rw[hq1] at hq;exact⟨_,_,rfl,hq,hr1,hSS⟩
def aQc(S:St)(K g:Nat)(k:Nat)(A:bK)(S':St):Prop:=
 A.inr=false/\∃ (a b:AV) (x:Nat),aD 0 A.F=a/\aD 1 A.F=b/\bV S' a x/\bV S' b k/\x<B ^ K/\k<B ^ K/\Nat.gcd x k=g/\Same S S'
theorem aAz{S:St}{a b:AV}{x y K:Nat}(H:Has fns)(ha:bV S a x)(hb:bV S b y)(hx:x<B ^ K)(hy:y<B ^ K)(hK:K<=19000):eR fns (.fn 87 [] []) [a,b] S fun r S'=>bV S' r (Nat.gcd x y)/\Same S S':=by
 refine bE H.f87 (by simp) ?_;refine aj ?_;refine aY (aj ?_);refine aC (aO (bJ (aQc S K (Nat.gcd x y)) ?_ y _ _ ⟨rfl,a,b,x,ak,ak,ha,hb,hx,hy,rfl,Same.refl _⟩));rintro k ⟨F,inr⟩ S' ⟨q0,a,b,x,p0,p1,ha,hb,hx,hk,hg,hS⟩;simp only at q0 p0 p1;subst q0;have⟨n,hn,hn0⟩:=tW hb;refine dS (er p1 hn ?_);by_cases hk0:k=0
 ·refine aM (by simp only[↓stU,aB,rE,↓reduceIte,Aa (show ¬ (0:Int)<(n:Int) by omega)]) (bD ?_);refine aj ?_;refine aY (eo p0 ?_);refine aI (aj ?_);rw[hk0,Gh] at hg;rw[<-hg];exact⟨ha,hS⟩
 ·refine aN (by simp only[↓stU,aB,rE,↓reduceIte,Ab (show(0:Int)<(n:Int) by omega)]) (aH ?_);refine aj ?_;refine aO (aC (aJ ?_));refine er p0 p1 ?_;refine aK (aj ?_);refine aG (pU H ha hb hx hK au) ?_;rintro _ S2 ⟨q,u,rfl,hq,hu,hS2⟩;refine er @nP @nN ?_;refine aJ (eo p1 ?_);refine⟨x % k,Dn _ au,rfl,b,u,k,ak,ak,hb.same hS2,hu,hk,Nat.lt_trans (Dn _ au) hk,?_,hS.trans hS2⟩;rw[<-hg,Dx,<-Nat.gcd_rec,Dx]
theorem aM4{z0 z1 z2:AV}{z:cL}{F:Fr}{h:T AB}(h3:(z.val F).cells=some [z.val F]):jK (.build [z0,z1,z2] [(2,1,z)]) F h=some (.agg [z0,z1,z.val F]):=by
 show(aU (iJ [z0,z1,z2] (iI F [(2,1,z)])) fun cs=>some (AV.agg cs))=_;simp only[iI,iJ,h3,aL];rfl
theorem mK{S:St}{neg:Bool}{a b:AV}{x y K:Nat}(H:Has fns)(ha:bV S a x)(hb:bV S b y)(hx:x<B ^ K)(hy:y<B ^ K)(hK:K<=19000)(hy0:0<y):eR fns (.fn 61 [] []) [.bool neg,a,b] S fun r S'=>bP S' r (mkRat (sg neg x) y)/\Same S S':=by
 have⟨n,hn,hn0⟩:=tW ha;refine bE H.f61 (by simp) ?_;refine aj ?_;refine aY ?_;refine bY ?_;intro S1 s1 n1 c1;refine aj ?_;refine dS (eo hn ?_);by_cases hx0:x=0
 ·refine aN (by simp only[↓stU,aB,rE,↓reduceIte,Ab (show(n:Int)=0 by omega)]) ?_;refine aY ?_;refine nJ (jW (k:=.u32) (n:=(1:Int)) (ak)) ?_;intro S2 s2 n2 c2;refine er @aM4 @aHu ?_;have hc:S2.h.get S.nx=some (.cells [.bool false,.cd,.cd] false 0):=by rw[s2.2 _ au];exact c1
  have h1:bV S2 (.sl S1.nx 0 1 1 false) 1:=⟨[1],fL (l:=[1]) (o:=false) (sz:=0) c2 au rfl (Af _),vO,lT⟩;have hv:bP S2 (.agg [.bool false,.cd,.sl S1.nx 0 1 1 false]) 0:=yQ h1;refine cR (b:=S.nx) (ak) (by simp only[↓stU,aB,rE,↓reduceIte,aR];rfl) hc rfl rfl ?_;intro S3 s3 n3 c3;refine aj ?_;refine aI (er @bF (kJ c3) ?_);rw[hx0,show sg neg 0=0 by cases neg<;>rfl,Rat.zero_mkRat];exact⟨hv.st hc rfl s3 c3,s3.same (s1.trans s2) (Af _)⟩
 ·refine aM (by simp only[↓stU,aB,rE,↓reduceIte,Aa (show ¬ (n:Int)=0 by omega)]) (aH ?_);refine aj ?_;refine aY (aj ?_);refine aK (aj ?_);refine aG (aAz H (ha.same s1) (hb.same s1) hx hy hK) ?_;rintro gv S2 ⟨hg,s2⟩;try refine aj ?_
  have hg0:0<Nat.gcd x y:=Dj _ hy0;refine aY (aj ?_);refine aK (aj ?_);refine aG (pU H (ha.same (s1.trans s2)) hg hx hK hg0) ?_;rintro _ S3 ⟨q,u,rfl,hq,hu,s3⟩;refine er @nP @nN ?_;refine aY (aj ?_);refine aK (aj ?_);refine aG (pU H (hb.same (s1.trans (s2.trans s3))) (hg.same s3) hy hK hg0) ?_;rintro _ S4 ⟨q',u',rfl,hq',hu',s4⟩;refine er @nP @nN ?_;have⟨l1,l2,l3⟩:=lowest (neg:=neg) (n:=x) (d:=y) rfl au;have hq4:=hq.same s4;refine aY (ew @sC @iV (eK hq4) (eK hq') ?_);have hc:S4.h.get S.nx=some (.cells [.bool false,.cd,.cd] false 0):=by rw[(s2.trans (s3.trans s4)).2 _ au];exact c1
  have hv:bP S4 (.agg [.bool neg,q,q']) (mkRat (sg neg x) y):=by
   rw[<-l1];refine mI hq4 hq' l3 l2 (fun h=>?_);have:=Gc (Nat.le_of_dvd au (Cy x y)) hg0;omega
  refine cR (b:=S.nx) (ak) (by simp only[↓stU,aB,rE,↓reduceIte,aR];rfl) hc rfl rfl ?_;intro S5 s5 n5 c5;refine aj ?_;refine aI (er @bF (kJ c5) ?_);exact⟨hv.st hc rfl s5 c5,s5.same (s1.trans (s2.trans (s3.trans s4))) (Af _)⟩
theorem aFS{S:St}{a b:AV}{p q:Rat}{K:Nat}(H:Has fns)(ha:bP S a p)(hb:bP S b q)(hp:pG K p)(hq:pG K q)(hK:K<=9000):eR fns (.fn 37 [] []) [a,b] S fun r S'=>bP S' r (p * q)/\Same S S':=by
 obtain⟨nv,dv,rfl,ha1,ha2⟩:=id ha;obtain⟨mv,ev,rfl,hb1,hb2⟩:=id hb;have FX:∀ {n},n<B ^ K->Fits n:=fun h=>Fits.of h au;refine bE H.f37 (by simp) ?_;refine aj ?_;refine aY ?_;refine bW (by simp only[↓stU,aB,rE,↓reduceIte,aR];rfl) ?_;intro S1 s1 n1 c1;refine bW (by simp only[↓stU,aB,rE,↓reduceIte,aR];rfl) ?_;intro S2 s2 n2 c2;refine bY ?_;intro S3 s3 n3 c3;refine aj ?_;have g1:S3.h.get S.nx=some (.cells [.bool (decide (p.num<0)),nv,dv] false 0):=by rw[s3.2 _ au,s2.2 _ au];exact c1
 have g2:S3.h.get S1.nx=some (.cells [.bool (decide (q.num<0)),mv,ev] false 0):=by rw[s3.2 _ au];exact c2
 have sS:=s1.trans (s2.trans s3);have lt1:S.nx<S3.nx:=by omega
 have lt2:S1.nx<S3.nx:=by omega
 have ne1:¬S.nx=S2.nx:=by omega
 have ne2:¬S1.nx=S2.nx:=by omega
 refine aC (eM (fun c=>c=S2.nx) ?_);intro S4 s4;simp only[↓sU,sD,rE,↓reduceIte,rA,aF,aE,aV,eJ g1,eY g1,eJ g2,eY g2,lt1,lt2,ne1,ne2,Ak,cP ha1,cP hb1,aCq];refine bH rfl ?_;try refine ae ?_
 refine aG (gL H (ha1.same (sS.trans s4)) (hb1.same (sS.trans s4)) (FX hp.1) (FX hq.1)) ?_;rintro xv S5 ⟨hx,s5⟩;refine⟨s5,?_⟩;simp only[↓sU,sD,rE,↓reduceIte,rA,aF,aE,aV,dC g1,dC g2,lt1,lt2,ne1,ne2,Ak,cP ha2,cP hb2];refine bH rfl ?_;try refine ae ?_
 have s45:=s4.trans s5;refine aG (gL H (ha2.same (sS.trans s45)) (hb2.same (sS.trans s45)) (FX hp.2) (FX hq.2)) ?_;rintro yv S6 ⟨hy,s6⟩;refine⟨s6,?_⟩;try refine ae ?_
 refine bH rfl ?_;try refine ae ?_
 have hd:0<p.den * q.den:=Em (aw p.den_nz) (aw q.den_nz);refine aG (mK H (hx.same s6) hy (fD hp.1 hq.1) (fD hp.2 hq.2) au hd) ?_;rintro v S7 ⟨hv,s7⟩;refine⟨s7,?_⟩;obtain⟨v0,v1,v2,rfl⟩:=hv.cells;have s37:=s45.trans (s6.trans s7);have c7:S7.h.get S2.nx=some (.cells [.bool false,.cd,.cd] false 0):=by rw[s37.2 _ au];exact c3
 try refine ae ?_
 refine jJ (b:=S2.nx) rfl (af) (by simp only[↓sU,sD,rE,↓reduceIte,rA,aR];rfl) c7 rfl rfl rfl ?_;intro S8 s8 n8 c8;refine ae ?_;refine aI (dk @bF (kJ c8) ?_);refine⟨?_,s8.same (sS.trans s37) au⟩;have e:mkRat (sg (decide (p.num<0) !=decide (q.num<0)) (p.num.natAbs * q.num.natAbs)) (p.den * q.den)=p * q:=by
  rw[aFw,qD,qD,Rat.mul_def']
 rw[<-e];exact hv.st c7 rfl s8 c8
theorem aOj{p q:Rat}(h0:q.num≠0):mkRat (sg (decide (p.num<0) !=decide (q.num<0)) (p.num.natAbs * q.den)) (p.den * q.num.natAbs)=p * q⁻¹ :=by
 rw[aFw,qD,<-aFe h0]
 conv=>rhs;rw[<-Ep p]
 rw[Rat.mkRat_mul_mkRat]
theorem aOh{p q:Rat}{u:Bool}{n:Nat}(h:sg u n=sg (decide (p.num<0)) (p.num.natAbs * q.den)+sg (decide (q.num<0)) (q.num.natAbs * p.den)):mkRat (sg u n) (p.den * q.den)=p+q:=by
 rw[h,aCk,aCk,qD,qD,Rat.add_def']
theorem aN6{x y:Nat}:decide (0<=yV x y)=decide (y<=x):=by
 unfold yV;split
 ·rw[Aa au,Aa au]
 ·split
  ·rw[Ab au,Ab au]
  ·rw[Ab au,Ab au]
theorem aHo{S:St}{a b:AV}{p q:Rat}{K:Nat}(H:Has fns)(ha:bP S a p)(hb:bP S b q)(hp:pG K p)(hq:pG K q)(hK:K<=9000):eR fns (.fn 36 [] []) [a,b] S fun r S'=>bP S' r (p+q)/\Same S S':=by
 obtain⟨nv,dv,rfl,ha1,ha2⟩:=id ha;obtain⟨mv,ev,rfl,hb1,hb2⟩:=id hb;have FX:∀ {n},n<B ^ K->Fits n:=fun h=>Fits.of h au;have peq:=@aOh p q;obtain⟨s,hs⟩:∃s,decide (p.num<0)=s:=⟨_,rfl⟩;obtain⟨t,ht⟩:∃t,decide (q.num<0)=t:=⟨_,rfl⟩;rw[hs,ht] at peq;rw[hs,ht];refine bE H.f36 (by simp) ?_;refine aj ?_;refine aY ?_;refine bW (by simp only[↓stU,aB,rE,↓reduceIte,aR];rfl) ?_;intro S1 s1 n1 c1;refine bW (by simp only[↓stU,aB,rE,↓reduceIte,aR];rfl) ?_;intro S2 s2 n2 c2;refine bY ?_;intro S3 s3 n3 c3;refine aj ?_;have g1:S3.h.get S.nx=some (.cells [.bool s,nv,dv] false 0):=by rw[s3.2 _ au,s2.2 _ au];exact c1
 have g2:S3.h.get S1.nx=some (.cells [.bool t,mv,ev] false 0):=by rw[s3.2 _ au];exact c2
 have sS:=s1.trans (s2.trans s3);have lt1:S.nx<S3.nx:=by omega
 have lt2:S1.nx<S3.nx:=by omega
 refine aC (eM (fun _=>False) ?_);intro S4 s4;simp only[↓sU,sD,rE,↓reduceIte,rA,aF,aE,aV,eY g1,dC g2,lt1,lt2,Ak,cP ha1,cP hb2];refine bH rfl ?_;try refine ae ?_
 refine aG (gL H (ha1.same (sS.trans s4)) (hb2.same (sS.trans s4)) (FX hp.1) (FX hq.2)) ?_;rintro xv S5 ⟨hx,s5⟩;refine⟨s5,?_⟩;simp only[↓sU,sD,rE,↓reduceIte,rA,aF,aE,aV,dC g1,eY g2,lt1,lt2,Ak,cP ha2,cP hb1];refine bH rfl ?_;try refine ae ?_
 have s45:=s4.trans s5;refine aG (gL H (hb1.same (sS.trans s45)) (ha2.same (sS.trans s45)) (FX hq.1) (FX hp.2)) ?_;rintro yv S6 ⟨hy,s6⟩;refine⟨s6,?_⟩;simp only[↓sU,sD,rE,↓reduceIte,rA,aF,aE,aV,dC g1,dC g2,lt1,lt2,Ak,cP ha2,cP hb2];refine bH rfl ?_;try refine ae ?_
 have s46:=s45.trans s6;refine aG (gL H (ha2.same (sS.trans s46)) (hb2.same (sS.trans s46)) (FX hp.2) (FX hq.2)) ?_;rintro zv S7 ⟨hz,s7⟩;refine⟨s7,?_⟩;try refine ae ?_
 have hx:=hx.same (s6.trans s7);have hy:=hy.same s7;have s37:=s46.trans s7;have bx:p.num.natAbs * q.den<B ^ (K+K):=fD hp.1 hq.2;have by':q.num.natAbs * p.den<B ^ (K+K):=fD hq.1 hp.2;have bz:p.den * q.den<B ^ (K+K):=fD hp.2 hq.2;have hd:0<p.den * q.den:=Em (aw p.den_nz) (aw q.den_nz);generalize p.num.natAbs * q.den=x at *;generalize q.num.natAbs * p.den=y at *;generalize p.den * q.den=z at *;have FY:∀ {n},n<B ^ (K+K)->Fits n:=fun h=>Fits.of h au;have lift:∀ {n},n<B ^ (K+K)->n<B ^ (K+K+1):=fun h=>nO h au;have k1:S7.h.get S.nx=some (.cells [.bool s,nv,dv] false 0):=by rw[s37.2 _ au];exact g1
 have k2:S7.h.get S1.nx=some (.cells [.bool t,mv,ev] false 0):=by rw[s37.2 _ au];exact g2
 have k3:S7.h.get S2.nx=some (.cells [.bool false,.cd,.cd] false 0):=by rw[s37.2 _ au];exact c3
 have l7:S3.nx<=S7.nx:=s37.1;have lt1':S.nx<S7.nx:=by omega
 have lt2':S1.nx<S7.nx:=by omega
 have ne1:¬S.nx=S2.nx:=by omega
 have ne2:¬S1.nx=S2.nx:=by omega
 refine dS (dx @aF @aE (eJ k1) (eJ k2) @aCw ?_);by_cases hst:s=t
 ·subst hst;refine aN (by simp only[↓sU,sD,rE,↓reduceIte,rA,aPR]) ?_;refine aC (eM (fun c=>c=S2.nx) ?_);intro S8 s8;have s8:Same S7 S8:=s8;refine dz @aF @aE @aV (eJ k1) lt1' ne1 @Ak ?_;refine bH rfl ?_;try refine ae ?_
  refine aG (aIB H (hx.same s8) (hy.same s8) (FY bx) (FY by')) ?_;rintro wv S9 ⟨hw,s9⟩;refine⟨s9,?_⟩;try refine ae ?_
  refine bH rfl ?_;try refine ae ?_
  refine aG (mK H hw (hz.same (s8.trans s9)) (yM bx by') (lift bz) au hd) ?_;rintro v S10 ⟨hv,s10⟩;refine⟨s10,?_⟩;obtain⟨v0,v1,v2,rfl⟩:=hv.cells;have s710:=s8.trans (s9.trans s10);have c10:S10.h.get S2.nx=some (.cells [.bool false,.cd,.cd] false 0):=by rw[s710.2 _ au];exact k3
  try refine ae ?_
  refine jJ (b:=S2.nx) rfl (af) (by simp only[↓sU,sD,rE,↓reduceIte,rA,aR];rfl) c10 rfl rfl rfl ?_;intro S11 s11 n11 c11;refine ae ?_;refine aI (dk @bF (kJ c11) ?_);refine⟨?_,s11.same (sS.trans (s37.trans s710)) au⟩;rw[<-peq (u:=s) (n:=x+y) (by cases s<;>simp [sg]<;>omega)];exact hv.st c10 rfl s11 c11
 have hne:(s==t)=false:=by cases s<;>cases t<;>first | rfl | exact absurd rfl hst
 refine aM (ah hne) (aH ?_);refine ae ?_;refine dS (ae ?_);refine aK ?_;try refine ae ?_
 refine aG (vT H hx hy (FY bx)) ?_;rintro _ S8 ⟨rfl,s8⟩;have s8:Same S7 S8:=s8;refine dh @aN6 ?_;have k1:S8.h.get S.nx=some (.cells [.bool s,nv,dv] false 0):=by rw[s8.2 _ au];exact k1
 have k2:S8.h.get S1.nx=some (.cells [.bool t,mv,ev] false 0):=by rw[s8.2 _ au];exact k2
 have k3:S8.h.get S2.nx=some (.cells [.bool false,.cd,.cd] false 0):=by rw[s8.2 _ au];exact k3
 have l8:S7.nx<=S8.nx:=s8.1;have lt1':S.nx<S8.nx:=by omega
 have lt2':S1.nx<S8.nx:=by omega
 have hx:=hx.same s8;have hy:=hy.same s8;have hz:=hz.same s8;have s38:=s37.trans s8;by_cases hge:y<=x
 ·refine aN (by simp only[↓sU,sD,rE,↓reduceIte,rA,Ab hge]) ?_;refine aC (eM (fun c=>c=S2.nx) ?_);intro S9 s9;refine dz @aF @aE @aV (eJ k1) lt1' ne1 @Ak ?_;refine bH rfl ?_;try refine ae ?_
  refine aG (wG H (hx.same s9) (hy.same s9) (FY bx) hge) ?_;rintro wv S10 ⟨hw,s10⟩;refine⟨s10,?_⟩;try refine ae ?_
  refine bH rfl ?_;try refine ae ?_
  refine aG (mK H hw.nat (hz.same (s9.trans s10)) (lift (Bs (Nat.sub_le x y) bx)) (lift bz) au hd) ?_;rintro v S11 ⟨hv,s11⟩;refine⟨s11,?_⟩;obtain⟨v0,v1,v2,rfl⟩:=hv.cells;have s811:=s9.trans (s10.trans s11);have c11:S11.h.get S2.nx=some (.cells [.bool false,.cd,.cd] false 0):=by rw[s811.2 _ au];exact k3
  try refine ae ?_
  refine jJ (b:=S2.nx) rfl (af) (by simp only[↓sU,sD,rE,↓reduceIte,rA,aR];rfl) c11 rfl rfl rfl ?_;intro S12 s12 n12 c12;refine ae ?_;refine aI (dk @bF (kJ c12) ?_);refine⟨?_,s12.same (sS.trans (s38.trans s811)) au⟩;rw[<-peq (u:=s) (n:=x - y) (by cases s<;>cases t<;>simp [sg]<;>first | omega | exact absurd rfl hst)];exact hv.st c11 rfl s12 c12
 ·refine aM (by simp only[↓sU,sD,rE,↓reduceIte,rA,Aa hge]) (aH ?_);refine ae ?_;refine aC (eM (fun c=>c=S2.nx) ?_);intro S9 s9;refine dz @aF @aE @aV (eJ k2) lt2' ne2 @Ak ?_;refine bH rfl ?_;try refine ae ?_
  refine aG (wG H (hy.same s9) (hx.same s9) (FY by') au) ?_;rintro wv S10 ⟨hw,s10⟩;refine⟨s10,?_⟩;try refine ae ?_
  refine bH rfl ?_;try refine ae ?_
  refine aG (mK H hw.nat (hz.same (s9.trans s10)) (lift (Bs (Nat.sub_le y x) by')) (lift bz) au hd) ?_;rintro v S11 ⟨hv,s11⟩;refine⟨s11,?_⟩;obtain⟨v0,v1,v2,rfl⟩:=hv.cells;have s811:=s9.trans (s10.trans s11);have c11:S11.h.get S2.nx=some (.cells [.bool false,.cd,.cd] false 0):=by rw[s811.2 _ au];exact k3
  try refine ae ?_
  refine jJ (b:=S2.nx) rfl (af) (by simp only[↓sU,sD,rE,↓reduceIte,rA,aR];rfl) c11 rfl rfl rfl ?_;intro S12 s12 n12 c12;refine ae ?_;refine aI (dk @bF (kJ c12) ?_);refine⟨?_,s12.same (sS.trans (s38.trans s811)) au⟩;rw[<-peq (u:=t) (n:=y - x) (by cases s<;>cases t<;>simp [sg]<;>first | omega | exact absurd rfl hst)];exact hv.st c11 rfl s12 c12
theorem aO9(F:Fr)(h:T AB):jK (.build [.bool false,.cd,.cd] []) F h=some (.agg [.bool false,.cd,.cd]):=rfl
def aQG(S:St)(r:AV)(o:Option Rat)(e:Int):Prop:=∃x y z,r= .tup [.agg [x,y,z],.int .i64 e]/\match o with
 | some q=>bP S (.agg [x,y,z]) q
 | none=>x= .bool false/\y= .cd/\z= .cd
def opt(E:Int)(q:Rat):Option Rat:=if E=0 then some q else none
theorem aLH(q:Rat):opt 0 q=some q:=rfl
theorem aO8{E:Int}(h:E≠0)(q:Rat):opt E q=none:=if_neg h
section
variable {S:St}{a b:AV}{E:Int}{p q:Rat}
end
section
variable {S:St}{a b:AV}{E:Int}{p q:Rat}
end
end Go.Ev.Gl
