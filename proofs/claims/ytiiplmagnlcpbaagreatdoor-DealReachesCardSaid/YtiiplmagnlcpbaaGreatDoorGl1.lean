import Derived.Test.YtiiplmagnlcpbaaGreatDoorGl0
import Derived.Test.YtiiplmagnlcpbaaGreatDoorIr0
import Derived.Test.YtiiplmagnlcpbaaGreatDoorIr1
import Derived.Test.YtiiplmagnlcpbaaGreatDoorIr2
import Derived.Test.YtiiplmagnlcpbaaGreatDoorIr3
set_option linter.unusedSimpArgs false
set_option linter.unusedVariables false
open Nat renaming reduceEqDiff -> rE, reduceAdd -> rA
set_option maxHeartbeats 0
namespace Go.Ev.Gl
structure Has(fns:T cM):Prop where
 f3:fns.get 3=some a3
 f6:fns.get 6=some a6
 f8:fns.get 8=some a8
 f9:fns.get 9=some a9
 f10:fns.get 10=some a10
 f11:fns.get 11=some a11
 f12:fns.get 12=some a12
 f13:fns.get 13=some a13
 f14:fns.get 14=some a14
 f25:fns.get 25=some a25
 f26:fns.get 26=some a26
 f29:fns.get 29=some a29
 f30:fns.get 30=some a30
 f31:fns.get 31=some a31
 f32:fns.get 32=some a32
 f33:fns.get 33=some a33
 f34:fns.get 34=some a34
 f35:fns.get 35=some a35
 f36:fns.get 36=some a36
 f37:fns.get 37=some a37
 f38:fns.get 38=some a38
 f47:fns.get 47=some a47
 f48:fns.get 48=some a48
 f49:fns.get 49=some a49
 f52:fns.get 52=some a52
 f53:fns.get 53=some a53
 f54:fns.get 54=some a54
 f55:fns.get 55=some a55
 f56:fns.get 56=some a56
 f57:fns.get 57=some a57
 f58:fns.get 58=some a58
 f59:fns.get 59=some a59
 f60:fns.get 60=some a60
 f61:fns.get 61=some a61
 f62:fns.get 62=some a62
 f63:fns.get 63=some a63
 f64:fns.get 64=some a64
 f65:fns.get 65=some a65
 f66:fns.get 66=some a66
 f71:fns.get 71=some a71
 f72:fns.get 72=some a72
 f73:fns.get 73=some a73
 f77:fns.get 77=some a77
 f78:fns.get 78=some a78
 f79:fns.get 79=some a79
 f80:fns.get 80=some a80
 f81:fns.get 81=some a81
 f82:fns.get 82=some a82
 f83:fns.get 83=some a83
 f84:fns.get 84=some a84
 f85:fns.get 85=some a85
 f86:fns.get 86=some a86
 f87:fns.get 87=some a87
 f88:fns.get 88=some a88
 f89:fns.get 89=some a89
 f91:fns.get 91=some a91
 f92:fns.get 92=some a92
 f93:fns.get 93=some a93
 f94:fns.get 94=some a94
 f96:fns.get 96=some a96
 f97:fns.get 97=some a97
 f98:fns.get 98=some a98
 f99:fns.get 99=some a99
 f100:fns.get 100=some a100
 f101:fns.get 101=some a101
 f102:fns.get 102=some a102
 f103:fns.get 103=some a103
 f104:fns.get 104=some a104
 f105:fns.get 105=some a105
 f106:fns.get 106=some a106
 f107:fns.get 107=some a107
 f108:fns.get 108=some a108
 f109:fns.get 109=some a109
 f110:fns.get 110=some a110
 f111:fns.get 111=some a111
 f112:fns.get 112=some a112
 f113:fns.get 113=some a113
 f114:fns.get 114=some a114
 f116:fns.get 116=some a116
 f117:fns.get 117=some a117
 f118:fns.get 118=some a118
 f119:fns.get 119=some a119
 f120:fns.get 120=some a120
 f121:fns.get 121=some a121
 f122:fns.get 122=some a122
 f123:fns.get 123=some a123
 f124:fns.get 124=some a124
 f125:fns.get 125=some a125
 f126:fns.get 126=some a126
 f127:fns.get 127=some a127
 f128:fns.get 128=some a128
 f129:fns.get 129=some a129
 f130:fns.get 130=some a130
 f131:fns.get 131=some a131
 f132:fns.get 132=some a132
 f133:fns.get 133=some a133
 f134:fns.get 134=some a134
 f135:fns.get 135=some a135
 f136:fns.get 136=some a136
 f137:fns.get 137=some a137
 f138:fns.get 138=some a138
 f139:fns.get 139=some a139
 f140:fns.get 140=some a140
 f141:fns.get 141=some a141
 f142:fns.get 142=some a142
 f143:fns.get 143=some a143
 f144:fns.get 144=some a144
 f145:fns.get 145=some a145
 f146:fns.get 146=some a146
 f147:fns.get 147=some a147
 f148:fns.get 148=some a148
 f149:fns.get 149=some a149
 f150:fns.get 150=some a150
 f151:fns.get 151=some a151
 f152:fns.get 152=some a152
 f153:fns.get 153=some a153
 f154:fns.get 154=some a154
variable {fns:T cM}
theorem aDz{S:St}{v:AV}{l:bt}(hfn:fns.get 117=some a117)(h:bQ S v l):eR fns (.fn 117 [] []) [v] S fun r S'=>r= .bool (decide (l= [1]))/\S'=S:=by
 refine bE hfn (by simp) ?_;simp;refine aY ?_;simp;refine aY ?_;by_cases h1:l.length=1
 ·have hlt:0<l.length:=by omega
  simp [h.len,h1,h.cw hlt,h.ld hlt];refine aI ?_;simp;obtain⟨x,rfl⟩:=Dg.1 h1;simp;constructor<;>intro h<;>omega
 ·have h2:¬ ((l.length:Int)=1):=by omega
  simp [h.len,h2];refine aI ?_;have h3:l≠ [1]:=fun e=>by subst e;simp at h1
  simp [h3]
theorem nW{S:St}{v:AV}{l:bt}(hfn:fns.get 139=some a139)(h:bQ S v l)(hs:bR l)(hlen:l.length<1000000000000):eR fns (.fn 139 [] []) [v] S fun r S'=>bV S r (val l)/\S'=S:=by
 refine bE hfn (by simp) ?_;simp;refine aY ?_;simp;refine aC (aO (bJ (fun k A S'=>S'=S/\A.inr=false/\∃u m,aD 0 A.F=u/\bQ S u m/\m.length=k/\bR m/\val m=val l/\m.length<=l.length) ?_ l.length _ _ ⟨rfl,rfl,v,l,by simp,h,rfl,hs,rfl,Af _⟩));rintro k ⟨F,inr⟩ S' ⟨rfl,rfl,u,m,h0,hu,hk,hsm,hv,hle⟩;simp only at h0;refine dS ?_;by_cases hm:m= []
 ·subst hm;simp [h0,hu.len];refine aM (by simp) (bD ?_);simp;refine aY ?_;simp [h0];refine aI ?_;simp;exact⟨[],hu,qF,by rw[<-hv]⟩
 ·obtain⟨m',x,rfl⟩:∃m' x,m=m'++ [x]:=⟨m.dropLast,m.getLast hm,(Eq hm).symm⟩;have hL:(m'++ [x]).length=m'.length+1:=by simp
  have hlt:m'.length<(m'++ [x]).length:=by omega
  have hpos:(0:Int)<(m'.length:Int)+1:=by omega
  have e1:IntKind.i64.wrap (m'.length:Int)=(m'.length:Int):=wrap_i64 au (by rw[hL] at hle;omega);have e2:(m'++ [x]).getD m'.length 0=x:=by simp
  have hlen':=hu.len;rw[hL] at hlen';have hiad:=hu.cw hlt;have hld:=hu.ld hlt;rw[e2] at hld;simp [h0,hlen',hpos,e1,hiad,hld];refine iP (t:=decide (x=0)) (by simp) (fun hx=>aH ?_) (fun hx=>bD ?_)
  ·have hx:x=0:=by simpa using hx
   subst hx;simp;refine aO (aJ ?_);have hh:=hu.head hlt;rw[List.take_left' rfl] at hh;simp [h0,hlen',e1,hu.slc hlt];refine⟨m'.length,au,m',hh,rfl,(bR.append.1 hsm).1,?_,au⟩;rw[<-hv,fK,Hg,Bi]
  ·have hx:x≠0:=by simpa using hx
   simp;refine aY ?_;simp [h0];refine aI ?_;simp;exact⟨m'++ [x],hu,⟨hsm,by simp [hx]⟩,hv⟩
theorem aAK{l:bt}{j:Nat}(h:j<l.length):l=l.take j++(l.getD j 0::l.drop (j+1)):=by
 have:l.getD j 0=l[j]:=by simp [Ae,h]
 rw[this,List.getElem_cons_drop,Bt]
theorem aEJ{l m:bt}{j:Nat}(hl:bR l)(hj:j<l.length)(hlen:l.length=m.length)(hd:l.drop (j+1)=m.drop (j+1))(h:l.getD j 0<m.getD j 0):val l<val m:=by
 rw[aAK hj,aAK (l:=m) (j:=j) au,val_append,val_append,dM,dM,hd];have h1:=eX (hl.take j);have e1:(l.take j).length=j:=by simp;omega
 have e2:(m.take j).length=j:=by simp;omega
 rw[e1,e2];rw[e1] at h1;generalize l.getD j 0=x at h;generalize m.getD j 0=y at h;generalize val (l.take j)=p at h1;generalize val (m.take j)=q;generalize val (m.drop (j+1))=r;generalize B ^ j=b at h1;have h2:b * (x+1+B * r)<=b * (y+B * r):=Bb _ au;have h3:b * (x+1+B * r)=b * (x+B * r)+b:=by rw[show x+1+B * r=(x+B * r)+1 by omega,Ca,Bp]
 omega
def yV(x y:Nat):Int:=if x<y then -1 else if x=y then 0 else 1
theorem aAT{S:St}{a b:AV}{x y:Nat}(hfn:fns.get 118=some a118)(ha:bV S a x)(hb:bV S b y)(hx:Fits x):eR fns (.fn 118 [] []) [a,b] S fun r S'=>r= .int .i64 (yV x y)/\Same S S':=by
 obtain⟨l,ha,hl,rfl⟩:=ha;obtain⟨m,hb,hm,rfl⟩:=hb;have hlen:=Fits.len hl hx;refine bE hfn (by simp) ?_;simp;refine aY ?_;simp;refine dS ?_;simp [ha.len,hb.len];refine iP (t:=decide (l.length≠m.length)) (by simp;omega) (fun h=>?_) (fun h=>?_)
 ·have hne:l.length≠m.length:=by simpa using h
  refine dS ?_;simp [ha.len,hb.len];refine iP (t:=decide (l.length<m.length)) (by simp) (fun h=>?_) (fun h=>aH ?_)
  ·have hlt:l.length<m.length:=by simpa using h
   refine aY ?_;simp;refine aI ?_;have:=fF hl.1 hm hlt;simp [yV,this,Same.refl]
  ·have hlt:¬l.length<m.length:=by simpa using h
   simp;refine aY ?_;simp;refine aI ?_;have:=fF hm.1 hl au;simp [yV,show ¬val l<val m by omega,show ¬val l=val m by omega,Same.refl]
 ·have heq:l.length=m.length:=by simpa using h
  refine aH ?_;simp;refine dS ?_;simp [ha.len];refine aO (bJ (fun k A S'=>Same S S'/\A.inr=false/\aD 0 A.F=a/\aD 1 A.F=b/\aD 5 A.F= .int .i64 ((k:Int) - 1)/\k<=l.length/\l.drop k=m.drop k) ?_ l.length _ _ ⟨Same.refl S,rfl,by simp,by simp,by simp;exact wrap_i64 au au,Af _,by rw[List.drop_length,heq,List.drop_length]⟩);rintro k ⟨F,inr⟩ S' ⟨hS,rfl,h0,h1,h5,hk,hd⟩;simp only at h0 h1 h5;have ha':=ha.same hS;have hb':=hb.same hS;refine dS ?_;cases k with
  | zero=>
   simp [h5];refine aM (by simp) (bD ?_);simp;refine aY ?_;simp;refine aI ?_;have:l=m:=by simpa using hd
   simp [yV,this,hS]
  | succ j=>
   have hj:j<l.length:=by omega
   have hj':j<m.length:=by omega
   have e5:aD 5 F= .int .i64 (j:Int):=by rw[h5];congr 1;omega
   simp [e5];refine aN (by simp) (aH ?_);simp;refine aC (aO (aC (aC (rB ?_))));simp [h0,h1,e5,ha'.cw hj,hb'.cw hj',ha'.ld hj,hb'.ld hj'];have hS1:Same S ⟨S'.h,S'.nx+9⟩:=⟨Bd hS.1 (by simp),hS.2⟩;refine iP (t:=decide (l.getD j 0<m.getD j 0)) (by simp) (fun h=>?_) (fun h=>aH ?_)
   ·have hlt:l.getD j 0<m.getD j 0:=by simpa using h
    refine aY ?_;simp;refine aI ?_;have:=aEJ hl.1 hj heq hd hlt;simp [yV,this,hS1]
   ·have hge:¬l.getD j 0<m.getD j 0:=by simpa using h
    have ha2:=ha.same hS1;have hb2:=hb.same hS1;have la2:=ha2.ld hj;have lb2:=hb2.ld hj';simp only at la2 lb2;simp;refine aC (rB ?_);simp [h0,h1,e5,ha2.cw hj,hb2.cw hj',la2,lb2];have hS2:Same S ⟨S'.h,S'.nx+9+9⟩:=⟨Bd hS.1 (by simp;omega),hS.2⟩;refine iP (t:=decide (m.getD j 0<l.getD j 0)) (by simp) (fun h=>?_) (fun h=>aH ?_)
    ·have hlt:m.getD j 0<l.getD j 0:=by simpa using h
     refine aY ?_;simp;refine aI ?_;have:=aEJ hm.1 hj' heq.symm hd.symm hlt;simp [yV,show ¬val l<val m by omega,show ¬val l=val m by omega,hS2]
    ·have hge2:¬m.getD j 0<l.getD j 0:=by simpa using h
     simp;refine aJ ?_;simp [e5];refine⟨j,au,hS2,by simp [h0],by simp [h1],by exact wrap_i64 au au,au,?_⟩;have e1:=aAK hj;have e2:=aAK hj';have:l.getD j 0=m.getD j 0:=by omega
     rw[Bo hj,Bo hj',hd];congr 1;simpa [Ae,hj,hj'] using this
def bL(l:bt):bo:=l.map fun x=>AV.int .u32 ((x:Nat):Int)
theorem fR(l:bt):(bL l).length=l.length:=by simp [bL]
theorem repeatL_one{α:Type}(z:α):∀n,repeatL [z] n=List.replicate n z
 | 0=>rfl
 | n+1=>by rw[jP,repeatL_one z n,List.replicate_succ];rfl
theorem gF(n:Nat):repeatL [AV.int .u32 0] n=bL (List.replicate n 0):=by rw[repeatL_one];simp [bL]
theorem kZ{t s bytes:Nat}{z:bo}{l c:cL}{F:Fr}{id n:Nat}(hl:dY (l.val F)=some n)(hc:dY (c.val F)=some n)(h1:n<=room)(h2:bytes * n<=room):
  vC (.di t s bytes z l c) F id=some (.sl id 0 n n false,.cells (repeatL z n) false 0):=by
 show(aU (dY (l.val F)) fun l=>aU (dY (c.val F)) fun c=>bM (Nat.ble l c) (bM (Nat.ble c room) (bM (Nat.ble (bytes * c) room) (some (AV.sl id 0 l c false,AB.cells (repeatL z c) false 0)) none) none) none)=_;rw[hl,aL,hc,aL,Ai (Af n),Ai h1,Ai h2];rfl
theorem aPG{S:St}{b i:Nat}{l:bt}{o:Bool}{sz x:Nat}(h:S.h.get b=some (.cells (bL l) o sz))(hi:i<l.length):
  oT (.ptr b (0+i * 1)) 1 [.int .u32 ((x:Nat):Int)] S=some (.undef,⟨S.h.set b (some (.cells (bL (l.set i x)) o sz)),S.nx⟩):=by
 have hp:put (bL l) (0+i * 1) [AV.int .u32 ((x:Nat):Int)]=some (bL (l.set i x)):=by
  rw[put_eq,if_pos (by simp [fR];omega)];congr 1;rw[Au,Bp];unfold bL;rw[<-List.map_take,<-List.map_drop,Eu,if_pos hi];simp
 simp only[oT,lN,h,aL,qA,hp];rfl
theorem fL{S:St}{b n:Nat}{l:bt}{o o':Bool}{sz cap:Nat}(h:S.h.get b=some (.cells (bL l) o sz))(hb:b<S.nx)(hn:n=l.length)(hc:n<=cap):bQ S (.sl b 0 n cap o') l:=by
 subst hn;refine .inr ⟨b,0,cap,o',bL l,by simp,by simpa using hc,hb,by simp [bU,h,dI],fun i x hx=>?_⟩;rw[Au];rw[Bk,An] at hx;obtain⟨y,hy,rfl⟩:=hx;simp [bL,hy]
theorem nS{d:bt}{n x:Nat}(h:d.length<n):(d++List.replicate (n - d.length) 0).set d.length x=d++ [x]++List.replicate (n - (d.length+1)) 0:=by
 obtain⟨k,hk⟩:∃k,n - d.length=k+1:=⟨n - d.length - 1,au⟩;rw[hk,show n - (d.length+1)=k by omega,List.replicate_succ];simp [Gy]
theorem aLD{p q r x y w br br' c:Nat}(hinv:p+br * c=q+r)(hw:x+br' * B=y+br+w)(hp:True):(p+c * x)+br' * (c * B)=(q+c * y)+(r+c * w):=by
 have h1:c * (x+br' * B)=c * (y+br+w):=by rw[hw]
 rw[Ca,Ca,Ca] at h1;have h2:c * (br' * B)=br' * (c * B):=by rw[<-Bl,Bf c br',Bl]
 have h3:c * br=br * c:=Bf _ _;omega
theorem aEj{l:bt}{i:Nat}:val (l.take (i+1))=val (l.take i)+B ^ (min i l.length) * l.getD i 0:=by
 by_cases h:i<l.length
 ·rw[Cz,Ad h,Option.toList_some,fK];simp [Ae,h]
 ·rw[Am au,Am au];simp [Ae,show l.length<=i by omega]
theorem fP{l:bt}{i:Nat}:val (l.take (i+1))=val (l.take i)+B ^ i * l.getD i 0:=by
 rw[aEj];by_cases h:i<l.length
 ·rw[Cj au]
 ·simp [Ae,show l.length<=i by omega]
theorem jZ{b off n cap i:Nat}{o:Bool}(hi:i<n):dN (.slice 1) (.sl b off n cap o) i=some (.ptr b (off+i * 1)):=by
 have:Nat.blt i n=true:=Ai hi;simp [dN,this]
def aRn(S:St)(a b:AV)(l m:bt)(k:Nat)(A:bK)(S':St):Prop:=
 A.inr=false/\∃ (i:Nat) (d:bt) (br:Nat),i+k=l.length/\d.length=i/\aD 1 A.F=b/\aD 5 A.F= .sl S.nx 0 l.length l.length false/\aD 6 A.F= .int .i64 (br:Int)/\aD 13 A.F=a/\
  aD 14 A.F= .int .i64 (l.length:Int)/\aD 15 A.F= .int .i64 (i:Int)/\Same S S'/\S.nx<S'.nx/\S'.h.get S.nx=some (.cells (bL (d++List.replicate (l.length - i) 0)) false 0)/\bR d/\br<=1/\
  val (l.take i)+br * B ^ i=val (m.take i)+val d
theorem aGk{S:St}{a b:AV}{x y:Nat}(h_trim:fns.get 139=some a139)(hfn:fns.get 153=some a153)(ha:bV S a x)(hb:bV S b y)(hxy:y<=x)(hx:Fits x):
  eR fns (.fn 153 [] []) [a,b] S fun r S'=>bV S' r (x - y)/\Same S S':=by
 obtain⟨l,ha,hl,rfl⟩:=ha;obtain⟨m,hb,hm,rfl⟩:=hb;have hlen:=Fits.len hl hx;have hml:m.length<=l.length:=by
  rcases Be l.length m.length with h | h
  ·have:=fF hl.1 hm h;omega
  ·exact h
 have hr1:l.length<=room:=by unfold room;omega
 have hr2:4 * l.length<=room:=by unfold room;omega
 refine bE hfn (by simp) ?_;simp;refine aY ?_;simp;refine aY ?_;simp [ha.len,kZ (n:=l.length),hr1,hr2];refine aY ?_;simp;refine dS ?_;simp [ha.len];refine aO (bJ (aRn S a b l m) ?_ l.length _ _ ⟨rfl,0,[],0,by simp,rfl,by simp,by simp,by simp,by simp,by simp,by simp,Same.alloc S _,by simp,?_,bR.nil,by simp,by simp [cN]⟩)
 ·rintro k ⟨F,inr⟩ S' ⟨h0,i,d,br,hk,hd,h1,h5,h6,h13,h14,h15,hS,hnx,hblk,hsd,hbr,hinv⟩;simp only at h0 h1 h5 h6 h13 h14 h15;subst h0;have ha':=ha.same hS;have hb':=hb.same hS;refine aY ?_;simp [h14,h15];refine aC (iP (t:=decide (i<l.length)) (by simp) (fun h=>aH ?_) (fun h=>bD ?_))
  ·have hi:i<l.length:=by simpa using h
   have hx:l.getD i 0<B:=by
    have:=hl.1.get (Ad hi);simpa [Ae,hi] using this
   have hy:m.getD i 0<B:=by
    by_cases h:i<m.length
    ·have:=hm.1.get (Ad h);simpa [Ae,h] using this
    ·simp [Ae,show m.length<=i by omega,B]
   rw[Ae] at hx hy;have hld:=ha'.ld hi;rw[Ae] at hld;have hyld:∀h:i<m.length,cT (nC b i) false 1 S'.h=some (.int .u32 ((m[i]?.getD 0:Nat):Int)):=fun h=>by
    have:=hb'.ld h
    rwa [Ae] at this
   have hyz:¬i<m.length->m[i]?.getD 0=0:=fun h=>by simp [show m.length<=i by omega]
   have etk:val (l.take (i+1))=val (l.take i)+B ^ i * (l[i]?.getD 0):=by rw[fP,Ae]
   have emk:val (m.take (i+1))=val (m.take i)+B ^ i * (m[i]?.getD 0):=by rw[fP,Ae]
   generalize l[i]?.getD 0=xv at hx hld etk;generalize m[i]?.getD 0=yv at hy hyld hyz emk;have hB:B=1000000000:=rfl;have w1:IntKind.i64.wrap (xv:Int)=xv:=wrap_i64 au au;have w2:IntKind.i64.wrap ((xv:Int) - br)=xv - br:=wrap_i64 au au;have w3:IntKind.i64.wrap (yv:Int)=yv:=wrap_i64 au au;have w4:IntKind.i64.wrap ((xv:Int) - br - yv)=xv - br - yv:=wrap_i64 au au;refine aC (aO (aC (aJ ?_)));simp [h13,h15,ha'.cw hi,hld];refine aY ?_;simp [h6,w1,w2];refine aC (aX (Q:=fun o A' S''=>o= .normal/\S''=S'/\A'.inr=false/\aD 1 A'.F=b/\aD 5 A'.F= .sl S.nx 0 l.length l.length false/\aD 7 A'.F= .int .i64 (i:Int)/\aD 9 A'.F= .int .i64 ((xv:Int) - br - yv)/\aD 13 A'.F=a/\aD 14 A'.F= .int .i64 (l.length:Int)/\aD 15 A'.F= .int .i64 (i:Int)) ?_ ?_)
   ·refine aY ?_;simp [h1,hb'.len];refine iP (t:=decide (i<m.length)) (by simp) (fun h=>?_) (fun h=>aH ?_)
    ·have him:i<m.length:=by simpa using h
     refine aJ ?_;simp [h1,hb'.cw him,hyld him,w3,w4,h5,h13,h14,h15]
    ·have him:¬i<m.length:=by simpa using h
     have:=hyz him;subst this;simp [h1,h5,h13,h14,h15]
   rintro o ⟨F2,inr2⟩ S'' ⟨rfl,rfl,rfl,g1,g5,g7,g9,g13,g14,g15⟩;simp only at g1 g5 g7 g9 g13 g14 g15;simp;refine aY ?_;simp;refine aC (aX (Q:=fun o A' S2=>o= .normal/\S2=S''/\A'.inr=false/\aD 1 A'.F=b/\aD 5 A'.F= .sl S.nx 0 l.length l.length false/\aD 7 A'.F= .int .i64 (i:Int)/\aD 13 A'.F=a/\aD 14 A'.F= .int .i64 (l.length:Int)/\aD 15 A'.F= .int .i64 (i:Int)/\
    ∃br' wv:Nat,aD 6 A'.F= .int .i64 (br':Int)/\aD 9 A'.F= .int .i64 (wv:Int)/\br'<=1/\wv<B/\xv+br' * B=yv+br+wv) ?_ ?_)
   ·refine aY ?_;simp [g9];refine iP (t:=decide ((xv:Int) - br - yv<0)) (by simp) (fun h=>?_) (fun h=>aH ?_)
    ·have hneg:(xv:Int) - br - yv<0:=by simpa using h
     have w5:IntKind.i64.wrap ((xv:Int) - br - yv+1000000000)=((xv+B - br - yv:Nat):Int):=by rw[wrap_i64 au au];omega
     refine aY ?_;simp [g9,w5];refine aJ ?_;simp [g1,g5,g7,g13,g14,g15];exact⟨1,rfl,xv+B - br - yv,rfl,au,au,au⟩
    ·have hneg:¬ (xv:Int) - br - yv<0:=by simpa using h
     simp [g1,g5,g7,g9,g13,g14,g15];exact⟨0,by simp,xv - br - yv,au,au,au,au⟩
   rintro o ⟨F3,inr3⟩ S2 ⟨rfl,rfl,rfl,f1,f5,f7,f13,f14,f15,br',wv,f6,f9,hbr',hwv,heq⟩;simp only at f1 f5 f7 f13 f14 f15 f6 f9;have w6:IntKind.u32.wrap (wv:Int)=wv:=wrap_u32 au au;simp;refine aJ ?_;simp [f5,f7,f9,w6,jZ hi];have hst:=aPG (x:=wv) hblk (i:=i) (by simp [hd];omega);rw[<-hd,nS au,hd] at hst;simp only[Au,Bp] at hst;refine gB (v:=.undef) (fun call=>by simp;exact hst) ?_;simp;refine aJ ?_;have w7:=dq i
   simp [f15,w7];refine⟨k - 1,au,rfl,i+1,d++ [wv],br',au,by simp [hd],by simp [f1],by simp [f5],by simp [f6],by simp [f13],by simp [f14],by simp,hS.put (Af _) _,hnx,?_,?_,hbr',?_⟩
   ·simp only;rw[dr,if_pos rfl];simp
   ·exact bR.append.2 ⟨hsd,fun z hz=>by simp at hz;omega⟩
   ·rw[etk,emk,fK,hd,Ci];exact aLD hinv heq trivial
  ·have hi:i=l.length:=by
    have:¬i<l.length:=by simpa using h
    omega
   have hi':=hi.symm;subst hi;have hout:=fL (n:=l.length) (o':=false) (cap:=l.length) hblk hnx (by simp [hd]) (Af _);simp at hout;refine aY ?_;simp [h5];refine aK ?_;simp;refine aG (nW h_trim hout hsd au) ?_;rintro v S1 ⟨hN,rfl⟩;refine aI ?_;simp;refine⟨?_,hS⟩;have e:val l - val m=val d:=by
    rw[Dw,Am hml] at hinv;have h1:=eX hsd;rw[hd] at h1;have:br=0:=by
     rcases Ap br with h | h
     ·exact h
     ·have:1 * B ^ l.length<=br * B ^ l.length:=Aq _ h;omega
    subst this;omega
   rw[e];exact hN
 ·simp [dr,gF]
theorem tR(t size bytes:Nat)(s x:cL)(call:dK)(F:Fr)(S:St):xX (.app t size bytes s x) call F S=iK bytes size (s.val F) (x.val F) S:=rfl
theorem jW{t:Nat}{z:AV}{x:cL}{F:Fr}{id:Nat}{k:IntKind}{n:Int}(hx:x.val F= .int k n):vC (.cq t 1 1 [z] [(0,x)]) F id=some (.sl id 0 1 1 false,.cells [.int k n] false 0):=by
 show(aU (iJ (repeatL [z] 1) [(0 * 1,1,x.val F)]) fun cs=>some (AV.sl id 0 1 1 false,AB.cells cs false 0))=_;rw[hx];rfl
theorem aNA{t s bytes:Nat}{z:bo}{l c:cL}{F:Fr}{id n:Nat}(hl:dY (l.val F)=some 0)(hc:dY (c.val F)=some n)(h1:n<=room)(h2:bytes * n<=room):
  vC (.di t s bytes z l c) F id=some (.sl id 0 0 n false,.cells (repeatL z n) false 0):=by
 show(aU (dY (l.val F)) fun l=>aU (dY (c.val F)) fun c=>bM (Nat.ble l c) (bM (Nat.ble c room) (bM (Nat.ble (bytes * c) room) (some (AV.sl id 0 l c false,AB.cells (repeatL z c) false 0)) none) none) none)=_;rw[hl,aL,hc,aL,Ai (Ey n),Ai h1,Ai h2];rfl
attribute [simp] tR
theorem aOO{l:bt}{i w:Nat}(hi:i<l.length):put (bL l) i [AV.int .u32 ((w:Nat):Int)]=some (bL (l.set i w)):=by
 rw[put_eq,if_pos (by simp [fR];omega)];congr 1;unfold bL;rw[<-List.map_take,<-List.map_drop,Eu,if_pos hi];simp
theorem aJM{S:St}{b t n cap w:Nat}{l:bt}{bytes:Nat}(hb:S.h.get b=some (.cells (bL l) false 0))(ht:S.h.get t=some (.cells [.int .u32 ((w:Nat):Int)] false 0))(hn:n<l.length)(hc:n+1<=cap):
  iK bytes 1 (.sl b 0 n cap false) (.sl t 0 1 1 false) S=some (.sl b 0 (n+1) cap false,⟨S.h.set b (some (.cells (bL (l.set n w)) false 0)),S.nx⟩):=by
 have e1:fE (.sl t 0 1 1 false) S.h 1 1=some [.int .u32 ((w:Nat):Int)]:=by
  show aU (bU S.h t) (fun cs=>cut cs 0 (1 * 1))=_;unfold bU;rw[ht];rfl
 show(aU (some 1) fun k=>aU (fE (.sl t 0 1 1 false) S.h 1 k) fun new=>aAo (.sl b 0 n cap false) bytes 1 k new S)=_;rw[aL,e1,aL];show tP bytes 1 b 0 n cap false 1 [.int .u32 ((w:Nat):Int)] S=_;unfold tP;rw[Ai hc,aP];have e2:Nat.beq 1 0=false:=rfl;rw[e2,aS];unfold lN;rw[hb,aL];simp only[qA,Au,Bp,aOO hn,aL]
theorem uE{S:St}{b cap:Nat}{d e:bt}{o o':Bool}{sz:Nat}(h:S.h.get b=some (.cells (bL (d++e)) o sz))(hb:b<S.nx)(hc:d.length<=cap):bQ S (.sl b 0 d.length cap o') d:=by
 refine .inr ⟨b,0,cap,o',bL (d++e),by simp,by simpa using hc,hb,by simp [bU,h,dI],fun i x hx=>?_⟩;rw[Au];rw[Bk,An] at hx;obtain⟨y,hy,rfl⟩:=hx;have hi:=(Aj.1 hy).1;unfold bL;rw[Bk,Ay hi,hy];rfl
theorem rC{d:bt}(hs:bR d)(h:d= []\/B ^ (d.length - 1)<=val d):jM d:=by
 refine⟨hs,fun e=>?_⟩;rcases h with h | h
 ·subst h;simp at e
 ·have hne:d≠ []:=by intro h;subst h;simp at e
  obtain⟨m',x,rfl⟩:∃m' x,d=m'++ [x]:=⟨d.dropLast,d.getLast hne,(Eq hne).symm⟩;simp at e;subst e;have:=eX (bR.append.1 hs).1;rw[fK] at h;simp at h;omega
theorem aLN{p q r x y w c c' b:Nat}(hinv:r+c * b=p+q)(hw:w+c' * B=x+y+c):(r+b * w)+c' * (b * B)=(p+b * x)+(q+b * y):=by
 have h1:b * (w+c' * B)=b * (x+y+c):=by rw[hw]
 rw[Ca,Ca,Ca] at h1;have h2:b * (c' * B)=c' * (b * B):=by rw[<-Bl,Bf b c',Bl]
 have h3:b * c=c * b:=Bf _ _;omega
def aRq(S:St)(a b:AV)(l m:bt)(k:Nat)(A:bK)(S':St):Prop:=
 A.inr=false/\∃ (i:Nat) (d:bt) (c:Nat),i+k=l.length/\d.length=i/\aD 1 A.F=b/\aD 5 A.F= .sl S.nx 0 i (l.length+1) false/\aD 6 A.F= .int .u32 (c:Int)/\aD 21 A.F=a/\
  aD 22 A.F= .int .i64 (l.length:Int)/\aD 23 A.F= .int .i64 (i:Int)/\Same S S'/\S.nx<S'.nx/\S'.h.get S.nx=some (.cells (bL (d++List.replicate (l.length+1 - i) 0)) false 0)/\bR d/\c<=1/\
  val d+c * B ^ i=val (l.take i)+val (m.take i)
noncomputable def aJI:AC:=
qk3
theorem aG0{S:St}{a b:AV}{l m:bt}{F:Fr}(ha:bQ S a l)(hb:bQ S b m)(hl:jM l)(hm:jM m)(hml:m.length<=l.length)(hlen:l.length<=100000)(h0:aD 0 F=a)(h1:aD 1 F=b):
  oD fns aJI ⟨F,false⟩ S (aNB [.t 4] fun r S'=>bV S' r (val l+val m)/\Same S S'):=by
 have hr1:l.length+1<=room:=by unfold room;omega
 have hr2:4 * (l.length+1)<=room:=by unfold room;omega
 have w0:IntKind.i64.wrap ((l.length:Int)+1)=((l.length+1:Nat):Int):=by rw[wrap_i64 au au];omega
 have hnat:dY (.int .i64 ((l.length:Int)+1))=some (l.length+1):=rfl;unfold aJI;refine aY ?_;simp [h0,ha.len,w0,hnat,aNA (n:=l.length+1),hr1,hr2];refine aY ?_;simp;refine dS ?_;simp [h0,ha.len];refine aO (bJ (aRq S a b l m) ?_ l.length _ _ ⟨rfl,0,[],0,by simp,rfl,by simp [h1],by simp,by simp,by simp,by simp,by simp,Same.alloc S _,by simp,?_,bR.nil,by simp,by simp [cN]⟩)
 ·rintro k ⟨F,inr⟩ S' ⟨q0,i,d,c,hk,hd,q1,q5,q6,q21,q22,q23,hS,hnx,hblk,hsd,hcar,hinv⟩;simp only at q0 q1 q5 q6 q21 q22 q23;subst q0;have ha':=ha.same hS;have hb':=hb.same hS;refine aY ?_;simp [q22,q23];refine aC (iP (t:=decide (i<l.length)) (by simp) (fun h=>aH ?_) (fun h=>bD ?_))
  ·have hi:i<l.length:=by simpa using h
   have hx:l[i]?.getD 0<B:=by
    have:=hl.1.get (Ad hi);simpa [hi] using this
   have hy:m[i]?.getD 0<B:=by
    by_cases h:i<m.length
    ·have:=hm.1.get (Ad h);simpa [h] using this
    ·simp [show m.length<=i by omega,B]
   have hld:=ha'.ld hi;rw[Ae] at hld;have hyld:∀h:i<m.length,cT (nC b i) false 1 S'.h=some (.int .u32 ((m[i]?.getD 0:Nat):Int)):=fun h=>by
    have:=hb'.ld h
    rwa [Ae] at this
   have hyz:¬i<m.length->m[i]?.getD 0=0:=fun h=>by simp [show m.length<=i by omega]
   have etk:val (l.take (i+1))=val (l.take i)+B ^ i * (l[i]?.getD 0):=by rw[fP,Ae]
   have emk:val (m.take (i+1))=val (m.take i)+B ^ i * (m[i]?.getD 0):=by rw[fP,Ae]
   generalize l[i]?.getD 0=xv at hx hld etk;generalize m[i]?.getD 0=yv at hy hyld hyz emk;have hB:B=1000000000:=rfl;have w1:IntKind.u32.wrap ((xv:Int)+c)=((xv+c:Nat):Int):=by rw[wrap_u32 au au];omega
   have w2:IntKind.u32.wrap ((xv:Int)+c+yv)=((xv+c+yv:Nat):Int):=by rw[wrap_u32 au au];omega
   refine aC (aO (aC (aJ ?_)));simp [q21,q23,ha'.cw hi,hld];refine aY ?_;simp [q6,w1];refine aC (aX (Q:=fun o A' S''=>o= .normal/\S''=S'/\A'.inr=false/\aD 1 A'.F=b/\aD 5 A'.F= .sl S.nx 0 i (l.length+1) false/\aD 9 A'.F= .int .u32 ((xv+c+yv:Nat):Int)/\aD 21 A'.F=a/\aD 22 A'.F= .int .i64 (l.length:Int)/\aD 23 A'.F= .int .i64 (i:Int)) ?_ ?_)
   ·refine aY ?_;simp [q1,hb'.len];refine iP (t:=decide (i<m.length)) (by simp) (fun h=>?_) (fun h=>aH ?_)
    ·have him:i<m.length:=by simpa using h
     refine aJ ?_;simp [q1,hb'.cw him,hyld him,w2,q5,q21,q22,q23]
    ·have him:¬i<m.length:=by simpa using h
     have:=hyz him;subst this;simp [q1,q5,q21,q22,q23]
   rintro o ⟨F2,inr2⟩ S'' ⟨rfl,rfl,rfl,g1,g5,g9,g21,g22,g23⟩;simp only at g1 g5 g9 g21 g22 g23;simp;refine aY ?_;simp;refine aC (aX (Q:=fun o A' S2=>o= .normal/\S2=S''/\A'.inr=false/\aD 1 A'.F=b/\aD 5 A'.F= .sl S.nx 0 i (l.length+1) false/\aD 21 A'.F=a/\aD 22 A'.F= .int .i64 (l.length:Int)/\aD 23 A'.F= .int .i64 (i:Int)/\
    ∃c' wv:Nat,aD 6 A'.F= .int .u32 (c':Int)/\aD 9 A'.F= .int .u32 (wv:Int)/\c'<=1/\wv<B/\wv+c' * B=xv+yv+c) ?_ ?_)
   ·refine aY ?_;simp [g9];refine iP (t:=decide ((1000000000:Int)<=(xv:Int)+c+yv)) (by simp) (fun h=>?_) (fun h=>aH ?_)
    ·have hge:(1000000000:Int)<=(xv:Int)+c+yv:=by simpa using h
     have w5:IntKind.u32.wrap ((xv:Int)+c+yv - 1000000000)=((xv+c+yv - B:Nat):Int):=by rw[wrap_u32 au au];omega
     refine aY ?_;simp [g9,w5];refine aJ ?_;simp [g1,g5,g21,g22,g23];exact⟨1,rfl,xv+c+yv - B,rfl,au,au,au⟩
    ·have hge:¬ (1000000000:Int)<=(xv:Int)+c+yv:=by simpa using h
     simp [g1,g5,g9,g21,g22,g23];exact⟨0,by simp,xv+c+yv,au,au,au,au⟩
   rintro o ⟨F3,inr3⟩ S2 ⟨rfl,rfl,rfl,f1,f5,f21,f22,f23,c',wv,f6,f9,hc',hwv,heq⟩;simp only at f1 f5 f21 f22 f23 f6 f9;simp;refine aJ ?_;simp [f5,f9,jW (k:=.u32) (n:=(wv:Int))];have hb3:(S2.h.set S2.nx (some (AB.cells [AV.int .u32 (wv:Int)] false 0))).get S.nx=some (.cells (bL (d++List.replicate (l.length+1 - i) 0)) false 0):=by rw[dr,if_neg au];exact hblk
   have ht3:(S2.h.set S2.nx (some (AB.cells [AV.int .u32 (wv:Int)] false 0))).get S2.nx=some (.cells [AV.int .u32 (wv:Int)] false 0):=by rw[dr,if_pos rfl]
   have happ:=aJM (S:=⟨S2.h.set S2.nx (some (AB.cells [AV.int .u32 (wv:Int)] false 0)),S2.nx+1⟩) (bytes:=4) (cap:=l.length+1) (n:=i) hb3 ht3 (by simp [hd];omega) au;have hset:(d++List.replicate (l.length+1 - i) 0).set i wv=d++ [wv]++List.replicate (l.length+1 - (i+1)) 0:=by rw[<-hd];exact nS au
   rw[hset] at happ;refine gB (fun call=>by simp [f5];exact happ) ?_;simp;refine aJ ?_;have w7:=dq i
   simp [f23,w7];have hS3:Same S ⟨S2.h.set S2.nx (some (AB.cells [AV.int .u32 (wv:Int)] false 0)),S2.nx+1⟩:=hS.trans (Same.alloc S2 _);refine⟨k - 1,au,rfl,i+1,d++ [wv],c',au,by simp [hd],by simp [f1],by simp,by simp [f6],by simp [f21],by simp [f22],by simp,hS3.put (Af _) _,by simp;omega,?_,?_,hc',?_⟩
   ·simp only;rw[dr,if_pos rfl];simp
   ·exact bR.append.2 ⟨hsd,fun z hz=>by simp at hz;omega⟩
   ·rw[etk,emk,fK,hd,Ci];exact aLN hinv heq
  ·have hi:i=l.length:=by
    have:¬i<l.length:=by simpa using h
    omega
   rw[hi,Dw,Am hml] at hinv;simp;refine aC (aX (Q:=fun o A' S''=>o= .normal/\A'.inr=false/\Same S S''/\∃r,aD 5 A'.F=r/\bV S'' r (val l+val m)) ?_ ?_)
   ·refine aY ?_;simp [q6];refine iP (t:=decide (0<c)) (by simp) (fun h=>?_) (fun h=>aH ?_)
    ·have hc1:c=1:=by
      have:0<c:=by simpa using h
      omega
     subst hc1;refine aJ ?_;simp [q5,q6,jW (k:=.u32) (n:=1)];have hb3:(S'.h.set S'.nx (some (AB.cells [AV.int .u32 1] false 0))).get S.nx=some (.cells (bL (d++List.replicate (l.length+1 - i) 0)) false 0):=by rw[dr,if_neg au];exact hblk
     have ht3:(S'.h.set S'.nx (some (AB.cells [AV.int .u32 1] false 0))).get S'.nx=some (.cells [AV.int .u32 ((1:Nat):Int)] false 0):=by rw[dr,if_pos rfl];rfl
     have happ:=aJM (S:=⟨S'.h.set S'.nx (some (AB.cells [AV.int .u32 1] false 0)),S'.nx+1⟩) (bytes:=4) (cap:=l.length+1) (n:=i) hb3 ht3 (by simp [hd];omega) au;have hset:(d++List.replicate (l.length+1 - i) 0).set i 1=d++ [1]++List.replicate (l.length+1 - (i+1)) 0:=by rw[<-hd];exact nS au
     rw[hset] at happ;refine gB (fun call=>by simp [q5];exact happ) ?_;have hS3:Same S ⟨S'.h.set S'.nx (some (AB.cells [AV.int .u32 1] false 0)),S'.nx+1⟩:=hS.trans (Same.alloc S' _);simp;refine⟨hS3.put (Af _) _,d++ [1],?_,?_,?_⟩
     ·have:=uE (S:=⟨(S'.h.set S'.nx (some (AB.cells [AV.int .u32 1] false 0))).set S.nx (some (AB.cells (bL (d++ [1]++List.replicate (l.length+1 - (i+1)) 0)) false 0)),S'.nx+1⟩) (b:=S.nx) (cap:=l.length+1) (d:=d++ [1]) (e:=List.replicate (l.length+1 - (i+1)) 0) (o:=false) (o':=false) (sz:=0) fc (by simp;omega) (by simp [hd];omega);simpa [hd] using this
     ·exact⟨bR.append.2 ⟨hsd,fun z hz=>by simp at hz;subst hz;decide⟩,by simp⟩
     ·rw[fK,hd,hi];omega
    ·have hc0:c=0:=by
      have:¬0<c:=by simpa using h
      omega
     subst hc0;simp [q5];refine⟨hS,d,?_,?_,au⟩
     ·have:=uE (S:=S') (cap:=l.length+1) (o':=false) hblk hnx au;rw[hd] at this;exact this
     ·refine rC hsd ?_;by_cases hl0:l= []
      ·left;subst hl0;simp at hi;exact Ce.1 au
      ·right;have:=aAw hl hl0;rw[hd,hi];omega
   rintro o ⟨F2,inr2⟩ S'' ⟨rfl,rfl,hS2,r,g5,hN⟩;simp only at g5;simp;refine aY ?_;simp [g5];refine aI ?_;simp;exact⟨hN,hS2⟩
 ·simp [dr,gF]
theorem aMu{S:St}{a b:AV}{x y:Nat}(hfn:fns.get 152=some a152)(ha:bV S a x)(hb:bV S b y)(hx:Fits x)(hy:Fits y):
  eR fns (.fn 152 [] []) [a,b] S fun r S'=>bV S' r (x+y)/\Same S S':=by
 obtain⟨l,ha,hl,rfl⟩:=ha;obtain⟨m,hb,hm,rfl⟩:=hb;have hlen:=Fits.len hl hx;have hlen':=Fits.len hm hy;refine bE hfn (by simp) ?_;simp;refine aY ?_;simp;refine dS ?_;simp [ha.len,hb.len];refine iP (t:=decide (l.length<m.length)) (by simp) (fun h=>aJ ?_) (fun h=>aH ?_)
 ·have hlt:l.length<m.length:=by simpa using h
  simp;rw[Fm];exact aG0 hb ha hm hl au hlen' (by simp) (by simp)
 ·have hlt:¬l.length<m.length:=by simpa using h
  simp;exact aG0 ha hb hl hm au hlen (by simp) (by simp)
theorem sR{S:St}{b p w:Nat}{l:bt}{o:Bool}{sz:Nat}(h:S.h.get b=some (.cells (bL l) o sz))(hp:p<l.length):
  oT (.ptr b p) 1 [.int .u32 ((w:Nat):Int)] S=some (.undef,⟨S.h.set b (some (.cells (bL (l.set p w)) o sz)),S.nx⟩):=by
 simp only[oT,lN,h,aL,qA,aOO hp];rfl
theorem yJ{S:St}{b p:Nat}{l:bt}{o:Bool}{sz:Nat}(h:S.h.get b=some (.cells (bL l) o sz))(hp:p<l.length):cT (.ptr b p) false 1 S.h=some (.int .u32 ((l[p]?.getD 0:Nat):Int)):=by
 simp only[cT,iO,aS,jE,bU,h,aL,dI,jI,bL,Bk];rw[Ad hp];rfl
theorem aMy{b off n cap i:Nat}{F:Fr}{x:cL}(hx:dY (x.val F)=some i)(h1:i<=n)(h2:n<=cap)(h3:i<cap):lA (.slice 1) (.sl b off n cap false) (some x) none none F=some (.sl b (off+i * 1) (n - i) (cap - i) false):=by
 have e1:Nat.ble cap cap=true:=Ai (Af _);have e2:Nat.ble n cap=true:=Ai h2;have e3:Nat.ble i n=true:=Ai h1;have e4:Nat.beq cap i=false:=by rw[Bx];intro h;rw[Av] at h;omega
 simp only[lA,aDm,iA,gC,aL,hx,e1,e2,e3,aP,e4,aS]
theorem iT(e:oZ){t d:Nat}(ht:t<=18446744073709551615)(hd:0<d):kH .quo e (.int .u64 ((t:Nat):Int)) (.int .u64 ((d:Nat):Int))=some (.int .u64 ((t / d:Nat):Int)):=by
 show cQ .quo .u64 (Int.ofNat t) .u64 (Int.ofNat d)=_;unfold cQ;rw[show eZ .quo=false from rfl,aS,fQ,aP];show bM (Nat.beq d 0) none (some (AV.int .u64 (nat .u64 (t / d))))=_;have h0:Nat.beq d 0=false:=by rw[Bx];intro h;rw[Av] at h;omega
 rw[h0,aS,nat_eq];congr 2;exact wrap_u64 (Gw _) (by have:=Ea t d;show((t / d:Nat):Int)<=_;omega)
theorem qW(e:oZ){t d:Nat}(hd:0<d):kH .rem e (.int .u64 ((t:Nat):Int)) (.int .u64 ((d:Nat):Int))=some (.int .u64 ((t % d:Nat):Int)):=by
 show cQ .rem .u64 (Int.ofNat t) .u64 (Int.ofNat d)=_;unfold cQ;rw[show eZ .rem=false from rfl,aS,fQ,aP];show bM (Nat.beq d 0) none (some (AV.int .u64 (.ofNat (t % d))))=_;have h0:Nat.beq d 0=false:=by rw[Bx];intro h;rw[Av] at h;omega
 rw[h0,aS];rfl
theorem aJ1(e:oZ){t:Nat}(ht:t<=18446744073709551615):kH .quo e (.int .u64 ((t:Nat):Int)) (.int .u64 1000000000)=some (.int .u64 ((t / B:Nat):Int)):=iT e ht gS
theorem aOo(e:oZ)(t:Nat):kH .rem e (.int .u64 ((t:Nat):Int)) (.int .u64 1000000000)=some (.int .u64 ((t % B:Nat):Int)):=qW e gS
theorem aGw{vl vo vm c bi bj x y o w k k':Nat}(hinv:vl+k * c=vo+bi * x * vm)(hc:c=bi * bj)(ht:x * y+o+k=w+k' * B):(vl+c * w)+k' * (c * B)=(vo+c * o)+bi * x * (vm+bj * y):=by
 have h1:c * (x * y+o+k)=c * (w+k' * B):=by rw[ht]
 rw[Ca,Ca,Ca] at h1;have h2:c * (k' * B)=k' * (c * B):=by rw[<-Bl,Bf c k',Bl]
 have h3:bi * x * (vm+bj * y)=bi * x * vm+c * (x * y):=by
  rw[Ca,hc];congr 1;rw[Bl,Bl,<-Bl x bj y,Bf x bj,Bl]
 have h4:c * k=k * c:=Bf _ _;rw[h3];omega
theorem aGZ{x y o k:Nat}(hx:x<B)(hy:y<B)(ho:o<B)(hk:k<B):(x * y+o+k) / B<B/\x * y<=999999998000000001:=by
 have h1:x * y<=999999999 * 999999999:=Ef (by unfold B at hx;omega) (by unfold B at hy;omega);have hB:B=1000000000:=rfl;refine⟨?_,au⟩;rw[Dq gS,hB];omega
theorem aLK:((B:Nat):Int)=1000000000:=by simp [B]
def aRj(S:St)(a b:AV)(l m:bt)(k:Nat)(A:bK)(S':St):Prop:=
 A.inr=false/\∃ (i:Nat) (d:bt),i+k=l.length/\d.length=i+m.length/\aD 1 A.F=b/\aD 5 A.F= .sl S.nx 0 (l.length+m.length) (l.length+m.length) false/\aD 27 A.F=a/\aD 28 A.F= .int .i64 (l.length:Int)/\
  aD 29 A.F= .int .i64 (i:Int)/\Same S S'/\S.nx<S'.nx/\S'.h.get S.nx=some (.cells (bL (d++List.replicate (l.length - i) 0)) false 0)/\bR d/\val d=val (l.take i) * val m
def aQ2(S:St)(a b:AV)(l m O:bt)(i x k:Nat)(A:bK)(S':St):Prop:=
 A.inr=false/\∃ (j:Nat) (L:bt) (c:Nat),j+k=m.length/\L.length=l.length+m.length/\aD 1 A.F=b/\aD 5 A.F= .sl S.nx 0 (l.length+m.length) (l.length+m.length) false/\aD 7 A.F= .int .u32 (x:Int)/\
  aD 8 A.F= .sl S.nx i (l.length+m.length - i) (l.length+m.length - i) false/\aD 9 A.F= .int .u64 (c:Int)/\aD 27 A.F=a/\aD 28 A.F= .int .i64 (l.length:Int)/\aD 29 A.F= .int .i64 (i:Int)/\
  aD 37 A.F=b/\aD 38 A.F= .int .i64 (m.length:Int)/\aD 39 A.F= .int .i64 (j:Int)/\Same S S'/\S.nx<S'.nx/\S'.h.get S.nx=some (.cells (bL L) false 0)/\bR L/\c<B/\L.drop (i+j)=O.drop (i+j)/\
  val (L.take (i+j))+c * B ^ (i+j)=val (O.take (i+j))+B ^ i * x * val (m.take j)
theorem tG{S:St}{a b:AV}{x y:Nat}(h_trim:fns.get 139=some a139)(hfn:fns.get 143=some a143)(ha:bV S a x)(hb:bV S b y)(hx:Fits x)(hy:Fits y):
  eR fns (.fn 143 [] []) [a,b] S fun r S'=>bV S' r (x * y)/\Same S S':=by
 obtain⟨l,ha,hl,rfl⟩:=ha;obtain⟨m,hb,hm,rfl⟩:=hb;have hlen:=Fits.len hl hx;have hlen':=Fits.len hm hy;have hr1:l.length+m.length<=room:=by unfold room;omega
 have hr2:4 * (l.length+m.length)<=room:=by unfold room;omega
 have w0:IntKind.i64.wrap ((l.length:Int)+(m.length:Int))=((l.length+m.length:Nat):Int):=by rw[wrap_i64 au au];omega
 have hnat:dY (.int .i64 ((l.length:Int)+(m.length:Int)))=some (l.length+m.length):=rfl;refine bE hfn (by simp) ?_;simp;refine aY ?_;simp;refine dS ?_;by_cases hl0:l= []
 ·subst hl0;simp [ha.len];refine aN (by simp) ?_;refine aY ?_;simp;refine aI ?_;simp [cN];exact⟨⟨[],.inl ⟨rfl,.inl rfl⟩,qF,rfl⟩,Same.refl S⟩
 by_cases hm0:m= []
 ·subst hm0;have hlp:l.length≠0:=fun h=>hl0 (Ce.1 h);simp [ha.len,hb.len,hl0];refine aN (by simp) ?_;refine aY ?_;simp;refine aI ?_;simp [cN];exact⟨⟨[],.inl ⟨rfl,.inl rfl⟩,qF,rfl⟩,Same.refl S⟩
 have hlp:0<l.length:=Du.2 hl0;have hmp:0<m.length:=Du.2 hm0;simp [ha.len,hb.len,hl0,hm0];refine aM (by simp) (aH ?_);simp;refine aY ?_;simp [ha.len,hb.len,w0,hnat,kZ (n:=l.length+m.length),hr1,hr2];refine dS ?_;simp [ha.len];refine aO (bJ (aRj S a b l m) ?_ l.length _ _ ⟨rfl,0,List.replicate m.length 0,by simp,by simp,by simp,by simp,by simp,by simp,by simp,Same.alloc S _,by simp,?_,fun z hz=>by simp at hz;rw[hz.2];decide,?_⟩)
 ·rintro k ⟨F,inr⟩ S' ⟨q0,i,d,hk,hd,q1,q5,q27,q28,q29,hS,hnx,hblk,hsd,hinv⟩;simp only at q0 q1 q5 q27 q28 q29;subst q0;have ha':=ha.same hS;have hb':=hb.same hS;refine aY ?_;simp [q28,q29];refine aC (iP (t:=decide (i<l.length)) (by simp) (fun h=>aH ?_) (fun h=>bD ?_))
  ·have hi:i<l.length:=by simpa using h
   have hld:=ha'.ld hi;rw[Ae] at hld;have hx:l[i]?.getD 0<B:=by
    have:=hl.1.get (Ad hi);simpa [hi] using this
   have etk:val (l.take (i+1))=val (l.take i)+B ^ i * (l[i]?.getD 0):=by rw[fP,Ae]
   generalize l[i]?.getD 0=xv at hx hld etk;refine aC (aO (aC (aJ ?_)));simp [q27,q29,ha'.cw hi,hld];refine aY ?_;simp [q5,aMy (i:=i),show i<=l.length+m.length by omega,show i<l.length+m.length by omega];refine aY ?_;simp;refine dS ?_;simp [q1,hb'.len];have hOlen:(d++List.replicate (l.length - i) 0).length=l.length+m.length:=by simp [hd];omega
   have hOs:bR (d++List.replicate (l.length - i) 0):=bR.append.2 ⟨hsd,fun z hz=>by simp at hz;rw[hz.2];decide⟩;have hOt:(d++List.replicate (l.length - i) 0).take (i+m.length)=d:=by rw[<-hd,List.take_left' rfl]
   have hOd:(d++List.replicate (l.length - i) 0).drop (i+m.length)=List.replicate (l.length - i) 0:=by rw[<-hd,List.drop_left' rfl]
   generalize d++List.replicate (l.length - i) 0=O at hblk hOlen hOs hOt hOd;refine aX (Q:=fun o A' S''=>o= .normal/\aQ2 S a b l m O i xv 0 A' S'') ?_ ?_
   ·refine aO (bJ (aQ2 S a b l m O i xv) ?_ m.length _ _ ⟨rfl,0,O,0,by simp,hOlen,by simp [q1],by simp [q5],by simp,by simp,by simp,by simp [q27],by simp [q28],by simp [q29],by simp,by simp,by simp,hS,hnx,hblk,hOs,by decide,rfl,by simp [cN]⟩);rintro k' ⟨F,inr⟩ S' ⟨p0,j,L,c,hjk,hL,p1,p5,p7,p8,p9,p27,p28,p29,p37,p38,p39,hS,hnx,hblk,hLs,hc,hLd,hinv2⟩;simp only at p0 p1 p5 p7 p8 p9 p27 p28 p29 p37 p38 p39;subst p0;have hb':=hb.same hS;refine aY ?_;simp [p38,p39];refine aC (iP (t:=decide (j<m.length)) (by simp) (fun h=>aH ?_) (fun h=>bD ?_))
    ·have hj:j<m.length:=by simpa using h
     have hyld:=hb'.ld hj;rw[Ae] at hyld;have hy:m[j]?.getD 0<B:=by
      have:=hm.1.get (Ad hj);simpa [hj] using this
     have emk:val (m.take (j+1))=val (m.take j)+B ^ j * (m[j]?.getD 0):=by rw[fP,Ae]
     generalize m[j]?.getD 0=yv at hy hyld emk;have hp:i+j<L.length:=by omega
     have hrld:=yJ hblk hp;have ho:L[i+j]?.getD 0<B:=by
      have:=hLs.get (Ad hp);simpa [hp] using this
     have hLO:L[i+j]?.getD 0=O[i+j]?.getD 0:=by
      have e1:(L.drop (i+j))[0]? =(O.drop (i+j))[0]? :=by rw[hLd]
      simpa using Hb (·.getD 0) e1
     have eOk:val (O.take (i+j+1))=val (O.take (i+j))+B ^ (i+j) * (O[i+j]?.getD 0):=by rw[fP,Ae]
     rw[<-hLO] at eOk;generalize L[i+j]?.getD 0=ov at ho hrld eOk;have⟨hc2,hxy⟩:=aGZ hx hy ho hc;have hB:B=1000000000:=rfl;have w1:IntKind.u64.wrap (xv:Int)=xv:=wrap_u64 au au;have w2:IntKind.u64.wrap (yv:Int)=yv:=wrap_u64 au au;have w3:IntKind.u64.wrap ((xv:Int) * yv)=((xv * yv:Nat):Int):=by rw[wrap_u64 (by rw[<-Bj];omega) (by rw[<-Bj];omega)];simp
     have w4:IntKind.u64.wrap (ov:Int)=ov:=wrap_u64 au au;have w5:IntKind.u64.wrap (((xv * yv:Nat):Int)+ov)=((xv * yv+ov:Nat):Int):=by rw[wrap_u64 au au];omega
     have w6:IntKind.u64.wrap (((xv * yv+ov:Nat):Int)+c)=((xv * yv+ov+c:Nat):Int):=by rw[wrap_u64 au au];omega
     have hiad:dN (.slice 1) (.sl S.nx i (l.length+m.length - i) (l.length+m.length - i) false) j=some (.ptr S.nx (i+j)):=by rw[jZ au,Bp]
     refine aC (aO (aC (aJ ?_)));simp [p37,p39,hb'.cw hj,hyld];refine aY ?_;simp only[jG,fM,bX,iU,gT,gO,fA,gI,eO,mM,bG,hJ,lD,kN,lI,aQ,aL,rE,Ck,Bm,reduceCtorEq,dD,dZ,dW,p7,p8,p9,w1,w2,w3,w4,w5,w6,hiad,hrld];have htle:xv * yv+ov+c<=18446744073709551615:=by omega
     generalize hteq:xv * yv+ov+c=t at hc2 htle;have hquo:=aJ1 (.p .int) htle;have hdm:t / B * B+t % B=t:=by rw[Bf];exact Dl t B
     have hmod:t % B<1000000000:=Dn t gS;generalize t / B=q at hc2 hdm hquo;generalize t % B=r at hdm hmod;have hcast:((q * B:Nat):Int)=(q:Int) * 1000000000:=by rw[Bj,aLK]
     generalize hsq:q * B=sq at hdm hcast;have w7:IntKind.u64.wrap ((q:Int) * 1000000000)=(sq:Int):=by rw[<-hcast];exact wrap_u64 au au
     have w8:IntKind.u64.wrap ((t:Int) - (sq:Int))=(r:Int):=by rw[wrap_u64 au au];omega
     have w9:IntKind.u32.wrap (r:Int)=(r:Int):=wrap_u32 au au;have hrB:r<B:=hmod;refine aY ?_;simp only[jG,fM,bX,iU,gT,gO,fA,gI,eO,mM,bG,hJ,lD,kN,lI,aQ,aL,rE,Ck,Bm,reduceCtorEq,dD,dZ,dW,hquo];refine aJ ?_;simp only[jG,fM,bX,iU,gT,gO,fA,gI,eO,mM,bG,hJ,lD,kN,lI,aQ,aL,rE,Ck,Bm,reduceCtorEq,dD,dZ,dW,p8,w7,w8,w9,hiad];have hst:=sR (w:=r) hblk hp;refine gB (fun call=>by simp only[eC,eO,bG,rE,Ck,Bm,cH,aL];exact hst) ?_;simp only[jG,fM,bX,iU,gT,gO,fA,gI,eO,mM,bG,hJ,lD,kN,lI,aQ,aL,rE,Ck,Bm,reduceCtorEq,dD,dZ,dW,fZ];refine aJ ?_;have w10:=dq j
     simp only[jG,fM,bX,iU,gT,gO,fA,gI,eO,mM,bG,hJ,lD,kN,lI,aQ,aL,rE,Ck,Bm,reduceCtorEq,dD,dZ,dW,p39,w10];have hLset:∀q,i+j<q->(L.set (i+j) r).drop q=L.drop q:=fun q hq=>by rw[List.drop_set];simp [show ¬q<=i+j by omega]
     have hLtk:(L.set (i+j) r).take (i+j)=L.take (i+j):=by rw[List.take_set,List.set_eq_of_length_le (by simp;omega)]
     refine⟨k' - 1,au,rfl,j+1,L.set (i+j) r,q,au,by simp [hL],by simp [p1],by simp [p5],by simp [p7],by simp [p8],by simp [bG],by simp [p27],by simp [p28],by simp [p29],by simp [p37],by simp [p38],by simp,hS.put (Af _) _,hnx,?_,?_,hc2,?_,?_⟩
     ·simp only;rw[dr,if_pos rfl]
     ·intro z hz;rcases List.mem_or_eq_of_mem_set hz with h | h
      ·exact hLs z h
      ·rw[h];exact hrB
     ·rw[<-Co,hLset _ au,<-Hc,hLd,Hc]
     ·have e1:val ((L.set (i+j) r).take (i+j+1))=val (L.take (i+j))+B ^ (i+j) * r:=by
       rw[fP,hLtk];simp [hp]
      rw[<-Co,e1,eOk,emk,Ci];exact aGw hinv2 (Hd B i j) (by rw[hteq,hsq];omega)
    ·have hj:j=m.length:=by
      have:¬j<m.length:=by simpa using h
      omega
     simp;exact⟨rfl,j,L,c,au,hL,by simp [p1],by simp [p5],by simp [p7],by simp [p8],by simp [p9],by simp [p27],by simp [p28],by simp [p29],by simp [p37],by simp [p38],by simp [p39],hS,hnx,hblk,hLs,hc,hLd,hinv2⟩
   rintro o ⟨F2,inr2⟩ S'' ⟨rfl,p0,j,L,c,hjk,hL,p1,p5,p7,p8,p9,p27,p28,p29,p37,p38,p39,hS,hnx,hblk,hLs,hc,hLd,hinv2⟩;simp only at p0 p1 p5 p7 p8 p9 p27 p28 p29 p37 p38 p39;subst p0;have hj:j=m.length:=by omega
   subst hj;have hb':=hb.same hS;have hp:i+m.length<L.length:=by omega
   have hB:B=1000000000:=rfl;have w1:IntKind.u32.wrap (c:Int)=(c:Int):=wrap_u32 au au;have hiad:dN (.slice 1) (.sl S.nx i (l.length+m.length - i) (l.length+m.length - i) false) m.length=some (.ptr S.nx (i+m.length)):=by rw[jZ au,Bp]
   have hst:=sR (w:=c) hblk hp;have w10:=dq i
   have hLl:(L.take (i+m.length)).length=i+m.length:=by simp;omega
   have hLsplit:L.set (i+m.length) c=L.take (i+m.length)++ [c]++List.replicate (l.length - (i+1)) 0:=by
    have e1:L=L.take (i+m.length)++List.replicate (l.length - i) 0:=by rw[<-hOd,<-hLd,Bt]
    have e2:l.length - i=l.length+m.length - (L.take (i+m.length)).length:=by rw[hLl];omega
    have e3:l.length - (i+1)=l.length+m.length - ((L.take (i+m.length)).length+1):=by rw[hLl];omega
    have e4:=nS (d:=L.take (i+m.length)) (n:=l.length+m.length) (x:=c) (by rw[hLl];omega);rw[<-e2,<-e3,<-e1,hLl] at e4;exact e4
   rw[hLsplit] at hst;show oD fns _ _ _ _;refine aJ ?_;simp only[jG,fM,bX,iU,gT,gO,fA,gI,nK,eO,mM,bG,hJ,lD,kN,lI,aQ,aL,rE,Ck,Bm,reduceCtorEq,dD,dZ,dW,p1,p8,p9,hb'.len,w1,hiad];refine gB (fun call=>by simp only[eC,eO,bG,rE,Ck,Bm,cH,aL];exact hst) ?_;simp only[jG,fM,bX,iU,gT,gO,fA,gI,nK,eO,mM,bG,hJ,lD,kN,lI,aQ,aL,rE,Ck,Bm,reduceCtorEq,dD,dZ,dW,fZ];refine aJ ?_;simp only[jG,fM,bX,iU,gT,gO,fA,gI,nK,eO,mM,bG,hJ,lD,kN,lI,aQ,aL,rE,Ck,Bm,reduceCtorEq,dD,dZ,dW,p29,w10];refine⟨k - 1,au,rfl,i+1,L.take (i+m.length)++ [c],au,by rw[Ba,hLl];simp;omega,by simp [p1],by simp [p5],by simp [p27],by simp [p28],by simp,hS.put (Af _) _,hnx,?_,?_,?_⟩
   ·simp only;rw[dr,if_pos rfl]
   ·exact bR.append.2 ⟨hLs.take _,fun z hz=>by simp at hz;rw[hz];exact hc⟩
   ·rw[fK,hLl,etk];rw[hOt,hinv,Dw] at hinv2;rw[Cb,Bf (B ^ (i+m.length)) c,hinv2]
  ·have hi:i=l.length:=by
    have:¬i<l.length:=by simpa using h
    omega
   rw[hi,Dw] at hinv;have hout:=fL (n:=l.length+m.length) (o':=false) (cap:=l.length+m.length) hblk hnx (by simp [hd];omega) (Af _);rw[hi] at hout;simp at hout;simp;refine aY ?_;simp [q5];refine aK ?_;simp;refine aG (nW h_trim hout hsd au) ?_;rintro v S1 ⟨hN,rfl⟩;refine aI ?_;simp;exact⟨by rw[<-hinv];exact hN,hS⟩
 ·simp [dr,gF,Fm]
 ·simp [cN];exact aBk fun z hz=>by simp at hz;exact hz.2
theorem wD{S:St}(hfn:fns.get 108=some a108):eR fns (.fn 108 [] []) [] S fun r S'=>bV S' r 1/\Same S S':=by
 refine bE hfn (by simp) ?_;simp;refine aY ?_;simp;refine aY ?_;have he:∀F id,vC (.cq 97 1 1 [AV.int .u32 0] [(0,.c (.int .u32 1))]) F id=some (.sl id 0 1 1 false,.cells [.int .u32 1] false 0):=fun F id=>jW rfl;simp [he];refine aI ?_;simp;refine⟨⟨[1],?_,vO,lT⟩,Same.alloc S _⟩;exact fL (l:=[1]) (o:=false) (sz:=0) (by simp only;rw[dr,if_pos rfl];rfl) (by simp) rfl (Af _)
theorem aN7{S:St}{v:AV}{l:bt}{bytes:Nat}(h:bQ S v l)(h1:l.length<=room)(h2:l.length * bytes<=room):
  ∃r S',iK bytes 1 .cd v S=some (r,S')/\bQ S' r l/\Same S S':=by
 rcases h with⟨h0,h⟩ | ⟨b,off,cap,o,cs,rfl,hc,hb,hcs,hel⟩
 ·simp at h0;subst h0;rcases h with rfl | rfl
  ·exact⟨.cd,S,rfl,.inl ⟨rfl,.inl rfl⟩,Same.refl S⟩
  ·exact⟨.cd,S,rfl,.inl ⟨rfl,.inl rfl⟩,Same.refl S⟩
 ·rw[Bc] at hc;by_cases hl:l= []
  ·subst hl;refine⟨.cd,S,?_,.inl ⟨rfl,.inl rfl⟩,Same.refl S⟩;show(aU (some 0) fun n=>aU (fE (.sl b off 0 cap o) S.h 1 n) fun new=>aAo .cd bytes 1 n new S)=_;rw[aL];show(aU (aU (bU S.h b) fun cs=>cut cs off (0 * 1)) fun new=>aAo .cd bytes 1 0 new S)=_;rw[hcs,aL];have:cut cs off (0 * 1)=some []:=by unfold cut;rw[jY,kR];simp
   rw[this];rfl
  ·have hcut:cut cs off (l.length * 1)=some (bL l):=by
    have hall:∀i,i<l.length->cs[off+i]? =some (.int .u32 ((l[i]?.getD 0:Nat):Int)):=fun i hi=>by
     refine hel i _ ?_;simp [hi]
    unfold cut;rw[jY,kR,Bp];have hlen:off+l.length<=cs.length:=by
     have hp:0<l.length:=Du.2 hl;have:=hall (l.length - 1) au;have:=(Aj.1 this).1;omega
    rw[if_pos (by simp;omega)];congr 1;apply List.ext_getElem?;intro i;rw[Ff];split
    ·rename_i hi;rw[Fd,hall i hi];simp [bL,hi]
    ·rename_i hi
     symm
     rw[Dp (by rw[fR];omega)]
   refine⟨.sl S.nx 0 l.length l.length true,⟨S.h.set S.nx (some (.cells (bL l) true 1)),S.nx+1⟩,?_,?_,Same.alloc S _⟩
   ·show(aU (some (l.map Int.ofNat).length) fun n=>aU (fE (.sl b off (l.map Int.ofNat).length cap o) S.h 1 n) fun new=>aAo .cd bytes 1 n new S)=_;rw[aL,Bc];show(aU (aU (bU S.h b) fun cs=>cut cs off (l.length * 1)) fun new=>nV bytes 1 l.length new S)=_;rw[hcs,aL,hcut,aL];unfold nV;have e0:Nat.beq l.length 0=false:=by rw[Bx];intro h;rw[Av] at h;exact hl (Ce.1 h)
    rw[e0,aS,Ai h1,aP,Ai h2,aP];rfl
   ·exact fL (o:=true) (sz:=1) fc (by simp) rfl (Af _)
theorem aKA{S:St}{v:AV}{l:bt}(hfn:fns.get 101=some a101)(h:bQ S v l)(hlen:l.length<=100000):eR fns (.fn 101 [] []) [v] S fun r S'=>bQ S' r l/\Same S S':=by
 have⟨r,S',happ,h1,h2⟩:=aN7 (bytes:=4) h ax ax;refine bE hfn (by simp) ?_;simp;refine aY ?_;simp;refine aY ?_;simp;refine gB (fun call=>by simp;exact happ) ?_;simp;refine aI ?_;simp;exact⟨h1,h2⟩
theorem mR{S:St}{v:AV}{n:Nat}(hfn:fns.get 101=some a101)(h:bV S v n)(hn:Fits n):eR fns (.fn 101 [] []) [v] S fun r S'=>bV S' r n/\Same S S':=by
 obtain⟨l,h1,h2,rfl⟩:=h;exact aG (aKA hfn h1 (Fits.len h2 hn)) fun r S' ⟨q1,q2⟩=>⟨⟨l,q1,h2,rfl⟩,q2⟩
theorem aM2{S:St}{b t n w:Nat}{d:bt}{bytes:Nat}(hb:S.h.get b=some (.cells (bL d) true 1))(ht:S.h.get t=some (.cells [.int .u32 ((w:Nat):Int)] false 0))(hn:n=d.length)(h1:n+1<=room)(h2:(n+1) * bytes<=room):
  iK bytes 1 (.sl b 0 n n true) (.sl t 0 1 1 false) S=some (.sl S.nx 0 (n+1) (n+1) true,⟨(S.h.set b none).set S.nx (some (.cells (bL (d++ [w])) true 1)),S.nx+1⟩):=by
 subst hn;have e1:fE (.sl t 0 1 1 false) S.h 1 1=some [.int .u32 ((w:Nat):Int)]:=by
  show aU (bU S.h t) (fun cs=>cut cs 0 (1 * 1))=_;unfold bU;rw[ht];rfl
 show(aU (some 1) fun k=>aU (fE (.sl t 0 1 1 false) S.h 1 k) fun new=>aAo (.sl b 0 d.length d.length true) bytes 1 k new S)=_;rw[aL,e1,aL];show tP bytes 1 b 0 d.length d.length true 1 [.int .u32 ((w:Nat):Int)] S=_;unfold tP;have e2:Nat.ble (d.length+1) d.length=false:=by rw[Bx];intro h;have:=Ar h;omega
 rw[e2,aS,Ai h1,aP,Ai h2,aP,hb,aL];have e3:cut (bL d) 0 (d.length * 1)=some (bL d):=by
  unfold cut;rw[jY,kR,Dd,Bp,if_pos (by rw[fR];exact Af _),Am (by rw[fR];exact Af _)]
 have e4:Nat.beq (0+d.length * 1) (kG (bL d))=true:=by rw[eQ,fR,Av];omega
 simp only[aEz,e3,aL,aP,Av,e4];have e5:Nat.beq 1 1=true:=rfl;rw[e5,aP,fB];simp [grown,bL]
def aCe(S0 S:St)(v:AV)(d:bt):Prop:=
 (v= .cd/\d= [])\/∃b,v= .sl b 0 d.length d.length true/\S0.nx<=b/\b<S.nx/\S.h.get b=some (.cells (bL d) true 1)
theorem aCe.limbs{S0 S:St}{v:AV}{d:bt}(h:aCe S0 S v d):bQ S v d:=by
 rcases h with⟨rfl,rfl⟩ | ⟨b,rfl,_,hb,h⟩
 ·exact .inl ⟨rfl,.inl rfl⟩
 ·exact fL h hb rfl (Af _)
theorem aCe.app{S0 S:St}{v:AV}{d:bt}{w bytes:Nat}(h:aCe S0 S v d)(hS:Same S0 S)(h1:d.length+1<=room)(h2:(d.length+1) * bytes<=room):
  ∃v' S',iK bytes 1 v (.sl S.nx 0 1 1 false) ⟨S.h.set S.nx (some (.cells [.int .u32 ((w:Nat):Int)] false 0)),S.nx+1⟩=some (v',S')/\aCe S0 S' v' (d++ [w])/\Same S0 S':=by
 have ht:(S.h.set S.nx (some (AB.cells [AV.int .u32 ((w:Nat):Int)] false 0))).get S.nx=some (.cells [.int .u32 ((w:Nat):Int)] false 0):=by rw[dr,if_pos rfl]
 have hS1:Same S0 ⟨S.h.set S.nx (some (.cells [.int .u32 ((w:Nat):Int)] false 0)),S.nx+1⟩:=hS.trans (Same.alloc S _);rcases h with⟨rfl,rfl⟩ | ⟨b,rfl,hb0,hb,h⟩
 ·refine⟨.sl (S.nx+1) 0 1 1 true,⟨(S.h.set S.nx (some (.cells [.int .u32 ((w:Nat):Int)] false 0))).set (S.nx+1) (some (.cells [.int .u32 ((w:Nat):Int)] true 1)),S.nx+1+1⟩,?_,.inr ⟨S.nx+1,rfl,aw hS.1,by simp,?_⟩,hS1.trans (Same.alloc _ _)⟩
  ·have e1:fE (.sl S.nx 0 1 1 false) (S.h.set S.nx (some (.cells [.int .u32 ((w:Nat):Int)] false 0))) 1 1=some [.int .u32 ((w:Nat):Int)]:=by
    show aU (bU _ S.nx) (fun cs=>cut cs 0 (1 * 1))=_;unfold bU;rw[ht];rfl
   show(aU (some 1) fun k=>aU (fE (.sl S.nx 0 1 1 false) (S.h.set S.nx (some (.cells [.int .u32 ((w:Nat):Int)] false 0))) 1 k) fun new=>aAo .cd bytes 1 k new _)=_;rw[aL,e1,aL];show nV bytes 1 1 _ _=_;unfold nV;have e2:Nat.beq 1 0=false:=rfl;simp at h1 h2;rw[e2,aS,Ai h1,aP,Ai au,aP];rfl
  ·simp only;rw[dr,if_pos rfl];rfl
 ·have hb3:(S.h.set S.nx (some (AB.cells [AV.int .u32 ((w:Nat):Int)] false 0))).get b=some (.cells (bL d) true 1):=by rw[dr,if_neg au];exact h
  have happ:=aM2 (S:=⟨S.h.set S.nx (some (.cells [.int .u32 ((w:Nat):Int)] false 0)),S.nx+1⟩) (bytes:=bytes) hb3 ht rfl h1 h2;refine⟨_,_,happ,.inr ⟨S.nx+1,by simp,aw hS.1,by simp,?_⟩,?_⟩
  ·simp only;rw[dr,if_pos rfl]
  ·exact⟨Bd hS.1 (by simp;omega),fun c hc=>by
    simp only;have:=hS.1;rw[dr,if_neg au,dr,if_neg au];exact hS1.2 c hc⟩
theorem tT{S:St}{n:Nat}(hfn:fns.get 82=some a82)(hn:n<=18446744073709551615):eR fns (.fn 82 [] []) [.int .u64 (n:Int)] S fun r S'=>bV S' r n/\Same S S':=by
 refine bE hfn (by simp) ?_;simp;refine aY ?_;simp;refine aY ?_;simp;refine aC (aO (bJ (fun k A S'=>A.inr=false/\∃ (d:bt) (v:AV),aD 0 A.F= .int .u64 (k:Int)/\k<=n/\aD 3 A.F=v/\aCe S S' v d/\Same S S'/\bR d/\val d+B ^ d.length * k=n/\(d= []\/B ^ (d.length - 1)<=n)) ?_ n _ _ ⟨rfl,[],.cd,by simp,Af _,by simp,.inl ⟨rfl,rfl⟩,Same.refl S,bR.nil,by simp [cN],.inl rfl⟩));rintro k ⟨F,inr⟩ S' ⟨q0,d,v,p0,hk,p3,hv,hS,hsd,hinv,hlow⟩;simp only at q0 p0 p3;subst q0;refine dS ?_;simp [p0];refine iP (t:=decide (0<k)) (by simp) (fun h=>aH ?_) (fun h=>bD ?_)
 ·have hk0:0<k:=by simpa using h
  have hquo:=aJ1 (.p .int) (t:=k) au;have hrem:=aOo (.p .int) k;have hdm:k / B * B+k % B=k:=by rw[Bf];exact Dl k B
  have hmod:k % B<1000000000:=Dn k gS;have hdiv:k / B<k:=Nat.div_lt_self hk0 ay;have hpow:B ^ d.length<=n:=by
   have:B ^ d.length * 1<=B ^ d.length * k:=Bb _ hk0;omega
  have hdl:d.length<=100:=by
   rcases Be 100 d.length with h | h
   ·have h1:B ^ 3<=B ^ d.length:=Ch gS au;have h2:(18446744073709551615:Nat)<B ^ 3:=by decide
    omega
   ·exact h
  have hstep:val d+B ^ d.length * (k % B)+B ^ (d.length+1) * (k / B)=n:=by
   rw[<-hinv,Ci,Bl,Co,<-Ca];congr 2;rw[Bf B,Fm];exact hdm
  generalize k / B=q at hdm hquo hdiv hstep;generalize k % B=r at hdm hmod hrem hstep;have w1:IntKind.u32.wrap (r:Int)=(r:Int):=wrap_u32 au au;have⟨v',S2,happ,hg,hS2⟩:=hv.app (w:=r) (bytes:=4) hS ax ax;refine aO (aC (aJ ?_));simp [p0,p3,hrem,w1,jW (k:=.u32) (n:=(r:Int))];refine gB (fun call=>by simp [p3];exact happ) ?_;simp;refine aJ ?_;simp [p0,hquo];refine⟨q,hdiv,rfl,au,d++ [r],hg,hS2,bR.append.2 ⟨hsd,fun z hz=>?_⟩,?_,?_⟩
  ·have:z=r:=by simpa using hz
   rw[this];exact hmod
  ·rw[fK,Ba];exact hstep
  ·right;rw[Ba];exact hpow
 ·have hk0:k=0:=by
   have:¬0<k:=by simpa using h
   omega
  subst hk0;simp;refine aY ?_;simp [p3];refine aI ?_;simp;refine⟨⟨d,hv.limbs,rC hsd ?_,by simpa using hinv⟩,hS⟩;rcases hlow with h | h
  ·exact .inl h
  ·right;simp at hinv;omega
theorem vI{l:bt}{j:Nat}(h:j<l.length):val (l.drop j)=l[j]?.getD 0+B * val (l.drop (j+1)):=by
 rw[Bo h,dM];simp [h]
theorem aKG{S:St}{v:AV}{l:bt}(hfn:fns.get 99=some a99)(h:bQ S v l)(hs:bR l)(hlen:l.length<=2):eR fns (.fn 99 [] []) [v] S fun r S'=>r= .int .u64 (val l:Int)/\S'=S:=by
 have hbound:∀k,val (l.drop k)<1000000000000000000:=fun k=>by
  have h1:=eX (l:=l.drop k) (fun x hx=>hs x (Dh hx));have h2:B ^ (l.drop k).length<=B ^ 2:=Ch gS (by simp;omega);have h3:B ^ 2=1000000000000000000:=by decide
  omega
 refine bE hfn (by simp) ?_;simp;refine aY ?_;simp;refine aY ?_;simp;refine dS ?_;simp [h.len];refine aO (bJ (fun k A S'=>S'=S/\A.inr=false/\aD 0 A.F=v/\aD 3 A.F= .int .u64 (val (l.drop k):Int)/\aD 4 A.F= .int .i64 ((k:Int) - 1)/\k<=l.length) ?_ l.length _ _ ⟨rfl,rfl,by simp,by simp [cN],by simp;exact wrap_i64 au au,Af _⟩);rintro k ⟨F,inr⟩ S' ⟨rfl,rfl,p0,p3,p4,hk⟩;simp only at p0 p3 p4;refine dS ?_;cases k with
 | zero=>
  simp [p4];refine aM (by simp) (bD ?_);simp;refine aY ?_;simp [p3];refine aI ?_;simp
 | succ j=>
  have hj:j<l.length:=by omega
  have e4:aD 4 F= .int .i64 (j:Int):=by rw[p4];congr 1;omega
  have hld:=h.ld hj;rw[Ae] at hld;have hv:=vI hj;have hb1:=hbound j;have hcast:((B * val (l.drop (j+1)):Nat):Int)=(val (l.drop (j+1)):Int) * 1000000000:=by rw[Bf,Bj,aLK]
  generalize hz:B * val (l.drop (j+1))=z at hv hcast;generalize l[j]?.getD 0=x at hld hv;generalize val (l.drop (j+1))=y at p3 hcast;have w1:IntKind.u64.wrap ((y:Int) * 1000000000)=(z:Int):=by rw[<-hcast];exact wrap_u64 au au
  have w2:IntKind.u64.wrap (x:Int)=(x:Int):=wrap_u64 au au;have w3:IntKind.u64.wrap ((z:Int)+(x:Int))=(val (l.drop j):Int):=by rw[wrap_u64 au au];omega
  simp [e4];refine aN (by simp) (aH ?_);simp;refine aC (aO (aJ ?_));simp [p0,p3,e4,h.cw hj,hld,w1,w2,w3];refine aJ ?_;simp [e4];exact⟨j,au,by simp [p0],rfl,by exact wrap_i64 au au,au⟩
theorem aGi{j w:Nat}{qs:bt}:(List.replicate (j+1) 0++qs).set j w=List.replicate j 0++(w::qs):=by
 rw[List.replicate_succ',Bn,Gy];simp
theorem aCE{x y qv b w r r' t c:Nat}(h1:y=qv * b+r)(ht:r * c+x=t)(hd:w * b+r'=t):x+c * y=(w+c * qv) * b+r':=by
 subst h1;rw[Ca,Cb,Bl,Bf c r];omega
def aPB(S:St)(a:AV)(l:bt)(b k:Nat)(A:bK)(S':St):Prop:=
 A.inr=false/\∃ (qs:bt) (r:Nat),aD 0 A.F=a/\aD 1 A.F= .int .u32 (b:Int)/\aD 6 A.F= .sl S.nx 0 l.length l.length false/\aD 7 A.F= .int .u64 (r:Int)/\aD 8 A.F= .int .i64 ((k:Int) - 1)/\k<=l.length/\
   qs.length+k=l.length/\Same S S'/\S.nx<S'.nx/\S'.h.get S.nx=some (.cells (bL (List.replicate k 0++qs)) false 0)/\bR qs/\r<b/\val (l.drop k)=val qs * b+r
theorem aD8{S:St}{a:AV}{l:bt}{b:Nat}(h_trim:fns.get 139=some a139)(hfn:fns.get 136=some a136)(ha:bQ S a l)(hl:bR l)(hlen:l.length<=100000)(hb:0<b)(hbB:b<=B):
  eR fns (.fn 136 [] []) [a,.int .u32 (b:Int)] S fun r S'=>∃q,r= .tup [q,.int .u32 ((val l % b:Nat):Int)]/\bV S' q (val l / b)/\Same S S':=by
 have hr1:l.length<=room:=by unfold room;omega
 have hr2:4 * l.length<=room:=by unfold room;omega
 have hB:B=1000000000:=rfl;refine bE hfn (by simp) ?_;simp;refine aY ?_;simp;refine aY ?_;simp [ha.len,kZ (n:=l.length),hr1,hr2];refine aY ?_;simp;refine dS ?_;simp [ha.len];refine aO (bJ (aPB S a l b) ?_ l.length _ _
   ⟨rfl,[],0,by simp,by simp,by simp,by simp,by simp;exact wrap_i64 au au,Af _,by simp,Same.alloc S _,by simp,by simp [dr,gF],bR.nil,hb,by simp [cN]⟩)
 rintro k ⟨F,inr⟩ S' ⟨p,qs,r,p0,p1,p6,p7,p8,hk,hq,hS,hnx,hblk,hqs,hr,hinv⟩;simp only at p p0 p1 p6 p7 p8;subst p;have ha':=ha.same hS;refine dS ?_;cases k with
 | zero=>
  have hout:=fL (n:=l.length) (o':=false) (cap:=l.length) hblk hnx (by simp;omega) (Af _);simp at hout hinv hq;have hdiv:val l / b=val qs/\val l % b=r:=by
   rw[hinv];constructor
   ·rw[Fm,Nat.add_mul_div_right _ _ hb,Gv hr];omega
   ·rw[Fm,Gf,Ek hr]
  have w1:IntKind.u32.wrap (r:Int)=(r:Int):=wrap_u32 au au;simp [p8];refine aM (by simp) (bD ?_);simp;refine aY ?_;simp [p6];refine aK ?_;simp;refine aG (nW h_trim hout hqs au) ?_;rintro v S1 ⟨hN,rfl⟩;simp [p7,w1];refine aI ?_;simp only[aAl,xJ,rI,aL,bX,xF,bG,rE,Ck,Bm];have hmodI:(val l:Int) % (b:Int)=(r:Int):=by rw[<-hdiv.2];simp
  rw[hdiv.1,hmodI];exact⟨v,rfl,hN,hS⟩
 | succ j=>
  have hj:j<l.length:=by omega
  have e8:aD 8 F= .int .i64 (j:Int):=by rw[p8];congr 1;omega
  have hld:=ha'.ld hj;rw[Ae] at hld;have hx:l[j]?.getD 0<B:=by
   have:=hl.get (Ad hj);simpa [hj] using this
  have hv:=vI hj;generalize l[j]?.getD 0=x at hld hx hv;have hrc:r * 1000000000<b * 1000000000:=Ei hr ay;have hbc:b * 1000000000<=1000000000 * 1000000000:=Aq _ hbB;obtain⟨t,ht⟩:∃t,r * 1000000000+x=t:=⟨_,rfl⟩;have w1:IntKind.u64.wrap ((r:Int) * 1000000000)=((r * 1000000000:Nat):Int):=by rw[wrap_u64 au au];simp
  have w2:IntKind.u64.wrap (x:Int)=(x:Int):=wrap_u64 au au;have w3:IntKind.u64.wrap (((r * 1000000000:Nat):Int)+(x:Int))=(t:Int):=by rw[wrap_u64 au au];omega
  have w4:IntKind.u64.wrap (b:Int)=(b:Int):=wrap_u64 au au;have hquo:=iT (.p .int) (t:=t) (d:=b) au hb;have hrem:=qW (.p .int) (t:=t) (d:=b) hb;have hdm:t / b * b+t % b=t:=by rw[Bf];exact Dl t b
  have hmod:t % b<b:=Dn t hb;have hwB:t / b<B:=by
   rw[Dq hb,hB,Bf];have:(r+1) * 1000000000<=b * 1000000000:=Aq _ hr;omega
  generalize t / b=w at hquo hdm hwB;generalize t % b=r' at hrem hdm hmod;have w5:IntKind.u32.wrap (w:Int)=(w:Int):=wrap_u32 au au;have hst:=sR (w:=w) hblk (p:=j) (by simp;omega);rw[aGi] at hst;have hiad:dN (.slice 1) (.sl S.nx 0 l.length l.length false) j=some (.ptr S.nx j):=by rw[jZ hj];simp
  simp [e8];refine aN (by simp) (aH ?_);simp;refine aC (aO (aC (aJ ?_)));simp only[jG,fM,bX,iU,gT,gO,fA,gI,eO,mM,bG,hJ,lD,kN,lI,aQ,aL,rE,Ck,Bm,reduceCtorEq,dD,dZ,dW,p0,p7,e8,ha'.cw hj,hld,w1,w2,w3];refine aY ?_;simp only[jG,fM,bX,iU,gT,gO,fA,gI,eO,mM,bG,hJ,aQ,aL,rE,Ck,Bm,reduceCtorEq,dD,p1,p6,e8,w4,hquo,w5,hiad];refine gB (fun call=>by simp only[eC,eO,bG,rE,Ck,Bm,cH,aL];exact hst) ?_;simp only[fM,dD,fZ];refine aJ ?_;simp only[jG,fM,bX,iU,gT,gO,eO,mM,bG,hJ,rE,Ck,Bm,reduceCtorEq,dZ,dD,p1,w4,hrem];refine aJ ?_;simp only[jG,fM,bX,iU,gO,eO,mM,bG,lI,rE,Ck,Bm,reduceCtorEq,dW,e8];refine⟨j,au,rfl,w::qs,r',by simp [p0],by simp [p1],by simp [p6],by simp,by simp;exact wrap_i64 au au,au,by simp;omega,hS.put (Af _) _,hnx,?_,bR.cons.2 ⟨hwB,hqs⟩,hmod,?_⟩
  ·simp only;rw[dr,if_pos rfl]
  ·rw[hv,dM];exact aCE hinv (by rw[hB];exact ht) hdm
def aPF(S:St)(a:AV)(l:bt)(x size k:Nat)(A:bK)(S':St):Prop:=
 A.inr=false/\∃ (i:Nat) (d:bt) (c:Nat),i+k=size/\d.length=i/\aD 0 A.F=a/\aD 1 A.F= .int .u64 (x:Int)/\aD 7 A.F= .sl S.nx 0 size size false/\aD 8 A.F= .int .u64 (c:Int)/\aD 13 A.F= .int .i64 (size:Int)/\aD 14 A.F= .int .i64 (i:Int)/\
  Same S S'/\S.nx<S'.nx/\S'.h.get S.nx=some (.cells (bL (d++List.replicate (size - i) 0)) false 0)/\bR d/\c<B/\val d+c * B ^ i=val (l.take i) * x
theorem aIs{p y x r c w c' b:Nat}(hinv:r+c * b=p * x)(hw:w+c' * B=c+y * x):(r+b * w)+c' * (b * B)=(p+b * y) * x:=by
 have h1:b * (w+c' * B)=b * (c+y * x):=by rw[hw]
 rw[Ca,Ca] at h1;have h2:b * (c' * B)=c' * (b * B):=by rw[<-Bl,Bf b c',Bl]
 have h3:b * c=c * b:=Bf _ _;rw[Cb,<-hinv,Bl];omega
theorem aDF{S:St}{a:AV}{l:bt}{x size:Nat}(hfn:fns.get 137=some a137)(ha:bQ S a l)(hl:bR l)(hx:x<=B)(hsz:size<=200000)(hls:l.length<=size)(hfit:val l * x<B ^ size):
  eR fns (.fn 137 [] []) [a,.int .u64 (x:Int),.int .i64 (size:Int)] S fun r S'=>∃d,r= .sl S.nx 0 size size false/\S.nx<S'.nx/\S'.h.get S.nx=some (.cells (bL d) false 0)/\d.length=size/\bR d/\val d=val l * x/\Same S S':=by
 have hr1:size<=room:=by unfold room;omega
 have hr2:4 * size<=room:=by unfold room;omega
 have hB:B=1000000000:=rfl;refine bE hfn (by simp) ?_;simp;refine aY ?_;simp;refine aY ?_;simp [kZ (n:=size),hr1,hr2];refine aY ?_;simp;refine dS ?_;simp [kT];refine aO (bJ (aPF S a l x size) ?_ size _ _ ⟨rfl,0,[],0,by simp,rfl,by simp,by simp,by simp,by simp,by simp,by simp,Same.alloc S _,by simp,by simp [dr,gF],bR.nil,by decide,by simp [cN]⟩);rintro k ⟨F,inr⟩ S' ⟨p,i,d,c,hk,hd,p0,p1,p7,p8,p13,p14,hS,hnx,hblk,hsd,hc,hinv⟩;simp only at p p0 p1 p7 p8 p13 p14;subst p;have ha':=ha.same hS;refine aY ?_;simp [p13,p14];refine aC (iP (t:=decide (i<size)) (by simp) (fun h=>aH ?_) (fun h=>bD ?_))
 ·have hi:i<size:=by simpa using h
  have hy:l[i]?.getD 0<B:=by
   by_cases h:i<l.length
   ·have:=hl.get (Ad h);simpa [h] using this
   ·simp [show l.length<=i by omega,B]
  have hyld:∀h:i<l.length,cT (nC a i) false 1 S'.h=some (.int .u32 ((l[i]?.getD 0:Nat):Int)):=fun h=>by
   have:=ha'.ld h
   rwa [Ae] at this
  have hyz:¬i<l.length->l[i]?.getD 0=0:=fun h=>by simp [show l.length<=i by omega]
  have etk:val (l.take (i+1))=val (l.take i)+B ^ i * (l[i]?.getD 0):=by rw[fP,Ae]
  generalize l[i]?.getD 0=y at hy hyld hyz etk;have hyx:y * x<=999999999 * 1000000000:=Ef au au;have w1:IntKind.u64.wrap (y:Int)=(y:Int):=wrap_u64 au au;have w2:IntKind.u64.wrap ((y:Int) * (x:Int))=((y * x:Nat):Int):=by rw[<-Bj];exact wrap_u64 au au
  have w3:IntKind.u64.wrap ((c:Int)+((y * x:Nat):Int))=((c+y * x:Nat):Int):=by rw[wrap_u64 au au];omega
  have htt:∃t,c+y * x=t:=⟨_,rfl⟩;have⟨t,ht⟩:=htt;rw[ht] at w3;refine aC (aO (aC (aJ ?_)));simp only[jG,fM,bX,iU,eO,bG,rE,Ck,Bm,dD,p14];refine aC (aX (Q:=fun o A' S''=>o= .normal/\S''=S'/\A'.inr=false/\aD 0 A'.F=a/\aD 1 A'.F= .int .u64 (x:Int)/\aD 7 A'.F= .sl S.nx 0 size size false/\aD 8 A'.F= .int .u64 (t:Int)/\aD 9 A'.F= .int .i64 (i:Int)/\aD 13 A'.F= .int .i64 (size:Int)/\aD 14 A'.F= .int .i64 (i:Int)) ?_ ?_)
  ·refine aY ?_;simp [p0,ha'.len];refine iP (t:=decide (i<l.length)) (by simp) (fun h=>?_) (fun h=>aH ?_)
   ·have him:i<l.length:=by simpa using h
    refine aJ ?_;simp only[jG,fM,bX,iU,gT,gO,fA,gI,eO,mM,bG,hJ,lD,kN,aQ,aL,rE,Ck,Bm,reduceCtorEq,p0,p1,p8,ha'.cw him,hyld him,w1,w2,w3];simp [p0,p1,p7,p13,p14]
   ·have him:¬i<l.length:=by simpa using h
    have:=hyz him;subst this;have:t=c:=by omega
    subst this;simp [p0,p1,p7,p8,p13,p14]
  rintro o ⟨F2,inr2⟩ S'' ⟨rfl,rfl,rfl,g0,g1,g7,g8,g9,g13,g14⟩;simp only at g0 g1 g7 g8 g9 g13 g14;have hquo:=aJ1 (.p .int) (t:=t) au;have hrem:=aOo (.p .int) t;have hdm:t / B * B+t % B=t:=by rw[Bf];exact Dl t B
  have hmod:t % B<1000000000:=Dn t gS;have hqB:t / B<B:=by rw[Dq gS,hB];omega
  generalize t / B=q at hquo hdm hqB;generalize t % B=r at hrem hdm hmod;have w4:IntKind.u32.wrap (r:Int)=(r:Int):=wrap_u32 au au;have hiad:dN (.slice 1) (.sl S.nx 0 size size false) i=some (.ptr S.nx i):=by rw[jZ hi];simp
  have hst:=sR (w:=r) hblk (p:=i) (by simp [hd];omega);have hset:(d++List.replicate (size - i) 0).set i r=d++ [r]++List.replicate (size - (i+1)) 0:=by rw[<-hd];exact nS au
  rw[hset] at hst;show oD fns _ _ _ _;refine aY ?_;simp only[jG,fM,bX,iU,gT,gO,fA,eO,mM,bG,hJ,aQ,aL,rE,Ck,Bm,reduceCtorEq,g7,g8,g9,hrem,w4,hiad];refine gB (fun call=>by simp only[eC,eO,bG,rE,Ck,Bm,cH,aL];exact hst) ?_;simp only[fM,dD,fZ];refine aJ ?_;simp only[jG,fM,bX,iU,gO,eO,mM,bG,rE,Ck,Bm,reduceCtorEq,dZ,dD,g8,hquo];refine aJ ?_;have w7:=dq i
  simp only[jG,fM,bX,iU,gO,eO,mM,bG,kN,rE,Ck,Bm,reduceCtorEq,dW,g14,w7];refine⟨k - 1,au,rfl,i+1,d++ [r],q,au,by simp [hd],by simp [g0],by simp [g1],by simp [g7],by simp,by simp [g13],by simp,hS.put (Af _) _,hnx,?_,bR.append.2 ⟨hsd,fun z hz=>?_⟩,hqB,?_⟩
  ·simp only;rw[dr,if_pos rfl]
  ·have:z=r:=by simpa using hz
   rw[this];exact hmod
  ·rw[fK,hd,etk,Ci];exact aIs hinv au
 ·have hi:i=size:=by
   have:¬i<size:=by simpa using h
   omega
  subst hi;rw[Am hls] at hinv;have hc0:c=0:=by
   rcases Ap c with h | h
   ·exact h
   ·have:1 * B ^ i<=c * B ^ i:=Aq _ h;omega
  subst hc0;simp at hblk;simp;refine aY ?_;simp [p7];refine aI ?_;simp;exact⟨hnx,d,hblk,hd,hsd,au,hS⟩
def pT:List AO->Fr->T AB->(Fr->Prop)->Prop
 | [],F,_,Q=>Q F
 | ⟨d,.q q,g,_⟩::l,F,h,Q=>if fI g F=true then lM (jK q F h) fun v=>(dU q=true->cC v v=true)/\pT l (cB d F v) h Q else pT l (cB d F .undef) h Q
 | _::_,_,_,_=>False
theorem aEb{h:T AB}{base:Nat}{Q:Fr->Prop}:∀ {ops:List AO} {i:Nat} {D:DS},D.S.h=h->D.hs= []->D.ps= []->gM h [] D.ls=true->pT ops D.F h Q->
  wpd fns ops i base D fun D'=>Q D'.F/\D'.S=D.S/\D'.ps= []/\D'.hs= []/\gM h [] D'.ls=true
 | [],i,D,h1,h2,h3,h4,hr=>by rw[mT];exact⟨hr,rfl,h3,h2,h4⟩
 | ⟨d,.q q,g,m⟩::l,i,⟨F,S,ps,hs,ls⟩,h1,h2,h3,h4,hr=>by
  simp only at h1 h2 h3 h4 hr;subst h2;subst h3;simp only[pT] at hr;have go:∀ (_:lM (jK q F h) fun v=>(dU q=true->cC v v=true)/\pT l (cB d F v) h Q),wpd fns (⟨d,.q q,none,m⟩::l) i base ⟨F,S,[],[],ls⟩ fun D'=>Q D'.F/\D'.S=S/\D'.ps= []/\D'.hs= []/\gM h [] D'.ls=true:=by
   rintro⟨v,hv,hs,hr⟩;rw[pP];subst h1;refine⟨v,hv,aEb rfl rfl rfl ?_ hr⟩;show gM S.h [] (bM (dU q) (⟨q,F,v,i,m⟩::ls) ls)=true;cases hq:dU q with
   | false=>exact h4
   | true=>
    rw[aP,mV,aDi];show bM (rF v (jK q F S.h)) _ _=true;rw[hv,jN,hs hq,aP];exact h4
  cases g with
  | none=>exact go (by rw[if_pos (show fI none F=true from rfl)] at hr;exact hr)
  | some g=>
   have⟨s,b⟩:=g;by_cases hw:fI (some (s,b)) F=true
   ·rw[if_pos hw] at hr;have⟨n,D',e1,e2⟩:=go hr;refine⟨n,D',?_,e2⟩;have:rT ⟨d,.q q,some (s,b),m⟩ i base (ev fns n).call ⟨F,S,[],[],ls⟩=rT ⟨d,.q q,none,m⟩ i base (ev fns n).call ⟨F,S,[],[],ls⟩:=by
     show bM (fI (some (s,b)) F) _ _=bM true _ _;rw[hw];rfl
    show aU (rT ⟨d,.q q,some (s,b),m⟩ i base (ev fns n).call ⟨F,S,[],[],ls⟩) _=_;rw[this];exact e1
   ·rw[if_neg hw] at hr;obtain⟨n,D',e1,e2⟩:=aEb (i:=i+1) (D:=⟨cB d F .undef,S,[],[],ls⟩) h1 rfl rfl h4 hr;refine⟨n,D',?_,e2⟩;have:rT ⟨d,.q q,some (s,b),m⟩ i base (ev fns n).call ⟨F,S,[],[],ls⟩=some ⟨cB d F .undef,S,[],[],ls⟩:=by
     show bM (fI (some (s,b)) F) _ _=_;rw[show fI (some (s,b)) F=false by simpa using hw];rfl
    show aU (rT ⟨d,.q q,some (s,b),m⟩ i base (ev fns n).call ⟨F,S,[],[],ls⟩) _=_;rw[this];exact e1
 | ⟨d,.a a,g,m⟩::l,i,D,h1,h2,h3,h4,hr=>by cases hr
 | ⟨d,.x a,g,m⟩::l,i,D,h1,h2,h3,h4,hr=>by cases hr
theorem jA{ops:List AO}{A:bK}{S:St}{Q:Out->bK->St->Prop}(h:pT ops A.F S.h fun F=>Q .normal ⟨F,A.inr⟩ ⟨S.h,S.nx+ops.length⟩):oD fns (.drw ops) A S Q:=by
 refine rB ?_;have⟨n,D',e1,e2,e3,e4,e5,e6⟩:=aEb (fns:=fns) (base:=S.nx) (i:=0) (D:=⟨A.F,⟨S.h,S.nx+ops.length⟩,[],[],[]⟩) rfl rfl rfl rfl h;refine⟨n,D',e1,?_,?_⟩
 ·rw[e5];exact e6
 ·rw[e4,cS,e3];exact e2
theorem aC9{F:Fr}{h:T AB}{Q:Fr->Prop}:pT [] F h Q↔Q F:=Iff.rfl
theorem aId{d:Option Nat}{q:QOp}{m:Nat}{l:List AO}{F:Fr}{h:T AB}{Q:Fr->Prop}:pT (⟨d,.q q,none,m⟩::l) F h Q↔lM (jK q F h) fun v=>(dU q=true->cC v v=true)/\pT l (cB d F v) h Q:=by
 show(if fI none F=true then _ else _)↔_;rw[if_pos (show fI none F=true from rfl)]
theorem aID{d:Option Nat}{q:QOp}{s:Nat}{b:Bool}{m:Nat}{l:List AO}{F:Fr}{h:T AB}{Q:Fr->Prop}:pT (⟨d,.q q,some (s,b),m⟩::l) F h Q↔if isB (aD s F) b=true then pT (⟨d,.q q,none,m⟩::l) F h Q else pT l (cB d F .undef) h Q:=by
 show(if fI (some (s,b)) F=true then _ else _)↔_;rw[show fI (some (s,b)) F=isB (aD s F) b from rfl];split
 ·rw[aId]
 ·rfl
theorem aMG:(true==true)=true:=rfl
theorem aLq:(false==false)=true:=rfl
theorem aHY:(true==false)=false:=rfl
theorem aLP:(false==true)=false:=rfl
theorem aBd(b:Bool):isB .undef b=false:=rfl
theorem zO(k:SlK)(x:cL)(a b c:Option cL):dU (.slc k x a b c)=false:=rfl
theorem qM(x:cL)(i:Nat):dU (.extract x i)=false:=rfl
theorem wW(c a b:cL):dU (.pick c a b)=false:=rfl
theorem zI(g:Bool)(o n:Nat)(x:cL):dU (.fld g o n x)=false:=rfl
theorem aBv(op:UnOp)(x:cL):dU (.un op x)=false:=rfl
attribute [simp] aC9 aId aID aBd zO qM wW zI aBv
def aLT(x:Option AV)(ld:Bool)(d:Option Nat)(l:List AO)(F:Fr)(h:T AB)(Q:Fr->Prop):Prop:=lM x fun v=>(ld=true->cC v v=true)/\pT l (cB d F v) h Q
theorem aCY{v:AV}{ld:Bool}{d:Option Nat}{l:List AO}{F:Fr}{h:T AB}{Q:Fr->Prop}:aLT (some v) ld d l F h Q↔(ld=true->cC v v=true)/\pT l (cB d F v) h Q:=by unfold aLT;rw[bX]
theorem aMj{d:Option Nat}{q:QOp}{m:Nat}{l:List AO}{F:Fr}{h:T AB}{Q:Fr->Prop}:pT (⟨d,.q q,none,m⟩::l) F h Q↔aLT (jK q F h) (dU q) d l F h Q:=aId
def aMB(fns:T cM)(x:Option AV)(d:Option Nat)(l:List AO)(F:Fr)(S:St)(Q:Fr->St->Prop):Prop:=lM x fun v=>pA fns l (cB d F v) S Q
theorem aDS{v:AV}{d:Option Nat}{l:List AO}{F:Fr}{S:St}{Q:Fr->St->Prop}:aMB fns (some v) d l F S Q↔pA fns l (cB d F v) S Q:=by unfold aMB;rw[bX]
theorem aOE{d:Option Nat}{q:QOp}{m:Nat}{l:List AO}{F:Fr}{S:St}{Q:Fr->St->Prop}:pA fns (⟨d,.q q,none,m⟩::l) F S Q↔aMB fns (jK q F S.h) d l F S Q:=jG
def bN(b:Nat)(S S':St):Prop:=S.nx<=S'.nx/\∀c,c<S.nx->c≠b->S'.h.get c=S.h.get c
theorem bN.refl(b:Nat)(S:St):bN b S S:=⟨Af _,fun _ _ _=>rfl⟩
theorem bN.put{b:Nat}{S S':St}(h:bN b S S')(x:Option AB):bN b S ⟨S'.h.set b x,S'.nx⟩:=⟨h.1,fun c hc hne=>by simp only;rw[dr,if_neg hne];exact h.2 c hc hne⟩
theorem bN.trans{b:Nat}{S S' S'':St}(h:bN b S S')(h':bN b S' S''):bN b S S'':=⟨Bd h.1 h'.1,fun c hc hne=>(h'.2 c (Ag hc h.1) hne).trans (h.2 c hc hne)⟩
theorem bN.same{b:Nat}{S0 S S':St}(h0:Same S0 S)(h:bN b S S')(hb:S0.nx<=b):Same S0 S':=⟨Bd h0.1 h.1,fun c hc=>(h.2 c (Ag hc h0.1) au).trans (h0.2 c hc)⟩
theorem Same.nx(S:St)(k:Nat):Same S ⟨S.h,S.nx+k⟩:=⟨Nat.le_add_right _ _,fun _ _=>rfl⟩
theorem aCx{p u q:bt}{i off:Nat}(hp:p.length=off)(hi:i<u.length):(p++u++q)[off+i]? =u[i]? :=by
 subst hp;rw[Bn,Az au,Ay au];congr 1;omega
theorem aGd{p u q:bt}{i off w:Nat}(hp:p.length=off)(hi:i<u.length):(p++u++q).set (off+i) w=p++u.set i w++q:=by
 subst hp;rw[Bn,Gy,if_neg au,Gy,if_pos au,Bn];congr 3;omega
theorem uM{p u q:bt}{i off:Nat}(hp:p.length=off)(hi:i<u.length):off+i<(p++u++q).length:=by simp;omega
theorem set_mid{d u:bt}{w:Nat}(h:d.length<u.length):(d++u.drop d.length).set d.length w=d++ [w]++u.drop (d.length+1):=by
 rw[Gy,if_neg au,Fk,Bn];congr 1;rw[Bo h];rfl
theorem lB{x:Nat}(h:x<B):bR [x]:=bR.cons.2 ⟨h,bR.nil⟩
theorem getD_lt{l:bt}(h:bR l)(i:Nat):l[i]?.getD 0<B:=by
 by_cases hi:i<l.length
 ·have:=h.get (Ad hi);simpa [hi] using this
 ·simp [show l.length<=i by omega,B]
theorem cK(l:bt)(i:Nat):val (l.take (i+1))=val (l.take i)+B ^ i * (l[i]?.getD 0):=by rw[fP,Ae]
abbrev stU:=And.intro @aOE (And.intro @aFP (And.intro @fM (And.intro @dD (And.intro @aBD (And.intro @yZ (And.intro @dZ (And.intro @zW (And.intro @vN (And.intro @dW (And.intro @zJ (And.intro @wQ (And.intro @aAl (And.intro @aC9 (And.intro @aMj (@aID)))))))))))))))
abbrev aB:=And.intro @aDS (And.intro @bX (And.intro @iU (And.intro @gT (And.intro @gO (And.intro @aIb (And.intro @fA (And.intro @gI (And.intro @nK (And.intro @wE (And.intro @aFZ (And.intro @aDh (And.intro @zC (And.intro @aCm (And.intro @eO (And.intro @mM (And.intro @bG (And.intro @fZ (And.intro @hJ (And.intro @lD (And.intro @kN (And.intro @lI (And.intro @aF9 (And.intro @aF3 (And.intro @aFB (And.intro @aGc (And.intro @aCr (And.intro @aFq (And.intro @aQ (And.intro @aL (And.intro @xJ (And.intro @rI (And.intro @aBf (And.intro @xF (And.intro @nH (And.intro @jL (And.intro @zD (And.intro @vY (And.intro @aCY (And.intro @vU (And.intro @aBd (And.intro @aMG (And.intro @aLq (And.intro @aHY (And.intro @aLP (And.intro @xH (And.intro @tZ (And.intro @jS (And.intro @pK (And.intro @gG (And.intro @zL (And.intro @zO (And.intro @qM (And.intro @wW (And.intro @zI (And.intro @aBv (And.intro @fS (And.intro @tK (And.intro @aDq (And.intro @tS (And.intro @zX (And.intro @Ao (And.intro @false_implies (And.intro @true_implies (And.intro @true_and (And.intro @and_true (And.intro @Ah (And.intro @Int.cast_ofNat_Int (And.intro @Int.natCast_zero (And.intro @Int.natCast_one (And.intro (@aP (T AB)) (And.intro (@aS (T AB)) (And.intro (@aP AV) (And.intro (@aS AV) (And.intro (@Cn AV) (And.intro (@Cx AV) (And.intro (@Cm AV) (And.intro (@Cn Nat) (And.intro (@Cx Nat) (@Cm Nat)))))))))))))))))))))))))))))))))))))))))))))))))))))))))))))))))))))))))))))))
theorem d9{p q r:Prop}(b:r)(a:q)(h:r->q->p:=by intro b a;simp only[↓stU,aB,Nat.reduceEqDiff,↓reduceIte,Nat.reduceAdd,b];exact a):p:=h b a
theorem ec{p q r s:Prop}(b:r)(c:s)(a:q)(h:r->s->q->p:=by intro b c a;simp only[↓stU,aB,Nat.reduceEqDiff,↓reduceIte,Nat.reduceAdd,b,c];exact a):p:=h b c a
theorem ed{p q r s t:Prop}(b:r)(c:s)(d:t)(a:q)(h:r->s->t->q->p:=by intro b c d a;simp only[↓stU,aB,Nat.reduceEqDiff,↓reduceIte,Nat.reduceAdd,b,c,d];exact a):p:=h b c d a
theorem ef{p q r s t u:Prop}(b:r)(c:s)(d:t)(e:u)(a:q)(h:r->s->t->u->q->p:=by intro b c d e a;simp only[↓stU,aB,Nat.reduceEqDiff,↓reduceIte,Nat.reduceAdd,b,c,d,e];exact a):p:=h b c d e a
theorem eh{p q r s t u v:Prop}(b:r)(c:s)(d:t)(e:u)(f:v)(a:q)(h:r->s->t->u->v->q->p:=by intro b c d e f a;simp only[↓stU,aB,Nat.reduceEqDiff,↓reduceIte,Nat.reduceAdd,b,c,d,e,f];exact a):p:=h b c d e f a
theorem ek{p q r s t u v w x y:Prop}(b:r)(c:s)(d:t)(e:u)(f:v)(g:w)(i:x)(j:y)(a:q)(h:r->s->t->u->v->w->x->y->q->p:=by intro b c d e f g i j a;simp only[↓stU,aB,Nat.reduceEqDiff,↓reduceIte,Nat.reduceAdd,b,c,d,e,f,g,i,j];exact a):p:=h b c d e f g i j a
theorem eo{p q r:Prop}(b:r)(a:q)(h:r->q->p:=by intro b a;simp only[↓stU,aB,Nat.reduceEqDiff,↓reduceIte,b];exact a):p:=h b a
theorem er{p q r s:Prop}(b:r)(c:s)(a:q)(h:r->s->q->p:=by intro b c a;simp only[↓stU,aB,Nat.reduceEqDiff,↓reduceIte,b,c];exact a):p:=h b c a
theorem eu{p q r s t:Prop}(b:r)(c:s)(d:t)(a:q)(h:r->s->t->q->p:=by intro b c d a;simp only[↓stU,aB,Nat.reduceEqDiff,↓reduceIte,b,c,d];exact a):p:=h b c d a
theorem ew{p q r s t u:Prop}(b:r)(c:s)(d:t)(e:u)(a:q)(h:r->s->t->u->q->p:=by intro b c d e a;simp only[↓stU,aB,Nat.reduceEqDiff,↓reduceIte,b,c,d,e];exact a):p:=h b c d e a
theorem e7{p q r s t u v:Prop}(b:r)(c:s)(d:t)(e:u)(f:v)(a:q)(h:r->s->t->u->v->q->p:=by intro b c d e f a;simp only[↓stU,aB,Nat.reduceEqDiff,↓reduceIte,b,c,d,e,f];exact a):p:=h b c d e f a
theorem e9{p q r s t u v w:Prop}(b:r)(c:s)(d:t)(e:u)(f:v)(g:w)(a:q)(h:r->s->t->u->v->w->q->p:=by intro b c d e f g a;simp only[↓stU,aB,Nat.reduceEqDiff,↓reduceIte,b,c,d,e,f,g];exact a):p:=h b c d e f g a
theorem fa{p q r s t u v w x:Prop}(b:r)(c:s)(d:t)(e:u)(f:v)(g:w)(i:x)(a:q)(h:r->s->t->u->v->w->x->q->p:=by intro b c d e f g i a;simp only[↓stU,aB,Nat.reduceEqDiff,↓reduceIte,b,c,d,e,f,g,i];exact a):p:=h b c d e f g i a
theorem aj{p q:Prop}(a:q)(h:q->p:=by intro a;simp only[↓stU,aB,Nat.reduceEqDiff,↓reduceIte];exact a):p:=h a
theorem ak{p:Prop}(h:p:=by simp only[↓stU,aB,Nat.reduceEqDiff,↓reduceIte]):p:=h
theorem am{p q:Prop}(a:q)(h:q->p:=by intro a;simp only[↓stU,aB,Nat.reduceEqDiff,↓reduceIte,a]):p:=h a
theorem ap{p q:Prop}(a:q)(h:q->p:=by intro a;simp only[↓stU,aB,Nat.reduceEqDiff,↓reduceIte,Nat.reduceAdd];exact a):p:=h a
theorem aq{p:Prop}(h:p:=by simp only[↓stU,aB,Nat.reduceEqDiff,↓reduceIte,Nat.reduceAdd]):p:=h
theorem ar{p q:Prop}(a:q)(h:q->p:=by intro a;simp only[↓stU,aB,Nat.reduceEqDiff,↓reduceIte,Nat.reduceAdd,a]):p:=h a
def aH3(S:St)(u v:AV)(m y1 top q:Nat)(k:Nat)(A:bK)(S':St):Prop:=
 A.inr=false/\∃g r,aD 0 A.F=u/\aD 1 A.F=v/\aD 5 A.F= .int .i64 ((m+2:Nat):Int)/\aD 7 A.F= .int .u64 ((g:Nat):Int)/\aD 8 A.F= .int .u64 ((r:Nat):Int)/\g * y1+r=top/\q<=g/\k=g/\g<=1000000001/\r<2000000000/\S'.h=S.h/\S.nx<=S'.nx
def aQi(b off:Nat)(S:St)(v:AV)(m g:Nat)(p u0 w lv:bt)(u:AV)(k:Nat)(A:bK)(S':St):Prop:=
 A.inr=false/\∃ (i:Nat) (d:bt) (c:Nat),i+k=m+2/\d.length=i/\aD 0 A.F=u/\aD 1 A.F=v/\aD 5 A.F= .int .i64 ((m+2:Nat):Int)/\aD 7 A.F= .int .u64 ((g:Nat):Int)/\aD 9 A.F= .int .u64 ((c:Nat):Int)/\aD 85 A.F=v/\aD 86 A.F= .int .i64 ((m+2:Nat):Int)/\aD 87 A.F= .int .i64 ((i:Nat):Int)/\
  bN b S S'/\S'.h.get b=some (.cells (bL (p++(d++u0.drop i)++w)) false 0)/\bR d/\c<B/\val d+g * val (lv.take i)=val (u0.take i)+c * B ^ i
def aQj(b off:Nat)(S:St)(v:AV)(m g:Nat)(p u0 w lv:bt)(u:AV)(k:Nat)(A:bK)(S':St):Prop:=
 A.inr=false/\∃ (i:Nat) (d:bt) (c:Nat),i+k=m+2/\d.length=i/\aD 0 A.F=u/\aD 5 A.F= .int .i64 ((m+2:Nat):Int)/\aD 7 A.F= .int .u64 ((g:Nat):Int)/\aD 14 A.F= .int .u32 ((c:Nat):Int)/\aD 130 A.F=v/\aD 131 A.F= .int .i64 ((m+2:Nat):Int)/\aD 132 A.F= .int .i64 ((i:Nat):Int)/\
  bN b S S'/\S'.h.get b=some (.cells (bL (p++(d++u0.drop i)++w)) false 0)/\bR d/\c<=1/\val d+c * B ^ i=val (u0.take i)+val (lv.take i)
theorem aH4{S:St}{b off m cap bv:Nat}{p u w lv:bt}(hfn:fns.get 138=some a138)(hblk:S.h.get b=some (.cells (bL (p++u++w)) false 0))(hv:S.h.get bv=some (.cells (bL lv) false 0))(hne:bv≠b)(hbv:bv<S.nx)
  (hm:lv.length=m+2) (hu:u.length=m+3) (hp:p.length=off) (hmm:m<=100000) (hus:bR u) (hvs:bR lv) (htop:B<=2 * lv[m+1]?.getD 0) (hlt:val u<val lv * B):
  eR fns (.fn 138 [] []) [.sl b off (m+3) cap false,.sl bv 0 (m+2) (m+2) false] S fun r S'=>r= .int .u32 ((val u / val lv:Nat):Int)/\val u / val lv<B/\
   ∃d,d.length=m+2/\S'.h.get b=some (.cells (bL (p++(d++ [0])++w)) false 0)/\bR d/\val d=val u % val lv/\bN b S S':=by
 have hB:B=1000000000:=rfl;have hu0:=getD_lt hus (m+2);have hu1:=getD_lt hus (m+1);have hu2:=getD_lt hus m;have hv1:=getD_lt hvs (m+1);have hv2:=getD_lt hvs m;have eU0:val u=val (u.take (m+2))+B ^ (m+2) * u[m+2]?.getD 0:=by
  have:=cK u (m+2);rwa [Am au] at this
 have hdr:u.drop (m+2)= [u[m+2]?.getD 0]:=by
  have h:m+2<u.length:=by omega
  rw[Bo h,Bw au,Ad h];rfl
 have eU1:=cK u (m+1);have eU2:=cK u m;have eV1:val lv=val (lv.take (m+1))+B ^ (m+1) * lv[m+1]?.getD 0:=by
  have:=cK lv (m+1);rwa [Am au] at this
 have eV2:=cK lv m;have lU:val (u.take m)<B ^ m:=by have:=eX (hus.take m);rwa [Bh,Cj au] at this
 have lV:val (lv.take m)<B ^ m:=by have:=eX (hvs.take m);rwa [Bh,Cj au] at this
 have lUn:val (u.take (m+2))<B ^ (m+2):=by have:=eX (hus.take (m+2));rwa [Bh,Cj au] at this
 have lVn:val lv<B ^ (m+2):=by have:=eX hvs;rwa [hm] at this
 have gU:∀i,i<m+3->(p++u++w)[off+i]? =u[i]? :=fun i hi=>aCx hp au;have gl:∀i,i<m+3->off+i<(p++u++w).length:=fun i hi=>uM hp au;have ldU:∀i,i<m+3->cT (.ptr b (off+i * 1)) false 1 S.h=some (.int .u32 ((u[i]?.getD 0:Nat):Int)):=fun i hi=>by
  rw[Bp];have:=yJ hblk (gl i hi);rwa [gU i hi] at this
 have ldV:∀i,i<m+2->cT (.ptr bv (0+i * 1)) false 1 S.h=some (.int .u32 ((lv[i]?.getD 0:Nat):Int)):=fun i hi=>by
  rw[Bp,Au];exact yJ hv au
 have l0:=ldU (m+2) au;have l1:=ldU (m+1) au;have l2:=ldU m au;have k1:=ldV (m+1) au;have k2:=ldV m au;generalize u[m+2]?.getD 0=x0 at *;generalize u[m+1]?.getD 0=x1 at *;generalize u[m]?.getD 0=x2 at *;generalize lv[m+1]?.getD 0=y1 at *;generalize lv[m]?.getD 0=y2 at *;have ia:∀i,i<m+3->dN (.slice 1) (.sl b off (m+3) cap false) i=some (.ptr b (off+i * 1)):=fun i hi=>jZ hi;have iv:∀i,i<m+2->dN (.slice 1) (.sl bv 0 (m+2) (m+2) false) i=some (.ptr bv (0+i * 1)):=fun i hi=>jZ hi;obtain⟨U,hU⟩:∃U,val u=U:=⟨_,rfl⟩;obtain⟨V,hV⟩:∃V,val lv=V:=⟨_,rfl⟩;have ep1:B ^ (m+1)=B ^ m * B:=Ci ..;have ep2:B ^ (m+2)=B ^ m * B * B:=by rw[Ci,Ci]
 have fU:U=((x0 * B+x1) * B+x2) * B ^ m+val (u.take m):=by rw[<-hU,eU0,eU1,eU2,ep1,ep2];grind
 have fV:V=(y1 * B+y2) * B ^ m+val (lv.take m):=by rw[<-hV,eV1,eV2,ep1];grind
 rw[hU,hV] at hlt;rw[hU,hV];rw[hV] at lVn;have hVp:0<V:=by
  rcases Ap V with h | h
  ·rw[h] at hlt;omega
  ·exact h
 have hq1:U / V * V<=U:=Nat.div_mul_le_self ..;have hq2:U<(U / V+1) * V:=by rw[Bf];exact Nat.lt_mul_div_succ U hVp
 have hqB:U / V<B:=by rw[Dq hVp,Bf];exact hlt
 have hrem:U % V=U - U / V * V:=by have:=Dl U V;rw[Bf] at this;omega
 rw[hrem];generalize U / V=q at *;obtain⟨P,hP⟩:∃P,B ^ m=P:=⟨_,rfl⟩;have hPp:0<P:=by rw[<-hP];exact Gb gS
 rw[hP] at fU fV lU lV ep1 ep2;rw[ep2] at lVn lUn;have ht64:x0 * 1000000000<=999999999 * 1000000000:=Aq _ au;obtain⟨top,htp⟩:∃top,x0 * 1000000000+x1=top:=⟨_,rfl⟩;have htp':x0 * B+x1=top:=htp;rw[htp'] at fU;have hx0:x0<=y1:=by
  rcases Be y1 x0 with h | h
  ·exfalso
   have h1:(y1+1) * (B * B * P)<=x0 * (B * B * P):=Aq _ h;have e1:x0 * (B * B * P)<=U:=by
     rw[fU,<-htp'];have:(((x0 * B+x1) * B+x2) * P)=x0 * (B * B * P)+(x1 * B+x2) * P:=by grind
     omega
   have e2:V * B<=(y1+1) * (B * B * P):=by
    have a1:y2 * P+P<=B * P:=by have:=Aq P (show y2+1<=B by omega);rw[Cb] at this;omega
    have a2:V<=(y1+1) * (B * P):=by
      rw[fV];have:(y1 * B+y2) * P=y1 * (B * P)+y2 * P:=by grind
      have e:=Cb y1 1 (B * P);omega
    have a3:V * B<=(y1+1) * (B * P) * B:=Aq _ a2;have:(y1+1) * (B * P) * B=(y1+1) * (B * B * P):=by grind
    omega
   omega
  ·exact h
 have hy1p:0<y1:=by omega
 refine bE hfn (by simp) ?_;refine aj ?_;refine aY (aj ?_);refine aY ?_;have hlv:kT (.sl bv 0 (m+2) (m+2) false)=some (.int .i64 ((m+2:Nat):Int)):=rfl;refine eo hlv ?_;have wn1:IntKind.i64.wrap (((m+2:Nat):Int) - 1)=((m+1:Nat):Int):=by rw[wrap_i64 au au];omega
 have wn2:IntKind.i64.wrap (((m+2:Nat):Int) - 2)=((m:Nat):Int):=by rw[wrap_i64 au au];omega
 have wx0:IntKind.u64.wrap (x0:Int)=(x0:Int):=wrap_u64 au au;have wx1:IntKind.u64.wrap (x1:Int)=(x1:Int):=wrap_u64 au au;have wx2:IntKind.u64.wrap (x2:Int)=(x2:Int):=wrap_u64 au au;have wy1:IntKind.u64.wrap (y1:Int)=(y1:Int):=wrap_u64 au au;have wy2:IntKind.u64.wrap (y2:Int)=(y2:Int):=wrap_u64 au au;have wt1:IntKind.u64.wrap ((x0:Int) * 1000000000)=((x0 * 1000000000:Nat):Int):=by rw[wrap_u64 au au];omega
 have wt2:IntKind.u64.wrap (((x0 * 1000000000:Nat):Int)+(x1:Int))=(top:Int):=by rw[wrap_u64 au au];omega
 have hquo:=iT (.p .int) (t:=top) (d:=y1) au hy1p;have hrm:=qW (.p .int) (t:=top) (d:=y1) hy1p;have hdm:top / y1 * y1+top % y1=top:=by rw[Bf];exact Dl top y1
 have hml:top % y1<y1:=Dn _ hy1p;have hg0:top / y1<=1000000001:=by
  have:top / y1<1000000002:=by
   rw[Dq hy1p];have:x0 * 1000000000<=y1 * 1000000000:=Aq _ hx0;omega
  omega
 generalize top / y1=g0 at hquo hdm hg0;generalize top % y1=r0 at hrm hdm hml;refine aC (jA ?_);simp only[↓stU,aB,rE,↓reduceIte,ia _ (show m+2<m+3 by omega),ia _ (show m+1<m+3 by omega),l0,l1,wn1,wx0,wx1,wt1,wt2];refine aC (jA ?_);refine e9 (iv _ (show m+1<m+2 by omega)) k1 wn1 wy1 hquo hrm ?_;have hge0:q<=g0:=aLW (U:=U) (V:=V) (p:=B * P) (lu:=x2 * P+val (u.take m)) (v1:=y1) (top:=top) (r:=r0) (by rw[fU];grind) (by
   have:=Aq P (show x2+1<=B by omega);rw[Cb] at this;omega) (by
     rw[fV];have:(y1 * B+y2) * P=y1 * (B * P)+y2 * P:=by grind
     omega) hq1 hdm hml
 refine aC (aX (Q:=fun o A' S'=>o= .normal/\A'.inr=false/\∃g,aD 0 A'.F= .sl b off (m+3) cap false/\aD 1 A'.F= .sl bv 0 (m+2) (m+2) false/\aD 5 A'.F= .int .i64 ((m+2:Nat):Int)/\aD 7 A'.F= .int .u64 ((g:Nat):Int)/\g<B/\q<=g/\g * V<=U+V/\S'.h=S.h/\S.nx<=S'.nx) ?_ ?_)
 ·refine aO (bJ (aH3 S (.sl b off (m+3) cap false) (.sl bv 0 (m+2) (m+2) false) m y1 top q) ?_ g0 _ _ ⟨rfl,g0,r0,by simp,by simp,by simp,by simp,by simp,hdm,hge0,rfl,hg0,au,rfl,by simp;omega⟩);rintro k ⟨F,inr⟩ S' ⟨q0,g,r,p0,p1,p5,p7,p8,hgr,hqg,rfl,hgB,hrB,hh,hnx⟩;simp only at q0 p0 p1 p5 p7 p8;subst q0;have hgy:k * y2<=1000000001 * 999999999:=Ef hgB au;have wg:IntKind.u64.wrap ((k:Int) * (y2:Int))=((k * y2:Nat):Int):=by rw[<-Bj];exact wrap_u64 au au
  have wr:IntKind.u64.wrap ((r:Int) * 1000000000)=((r * 1000000000:Nat):Int):=by rw[wrap_u64 au au];omega
  have wr2:IntKind.u64.wrap (((r * 1000000000:Nat):Int)+(x2:Int))=((r * 1000000000+x2:Nat):Int):=by rw[wrap_u64 au au];omega
  have fin:∀ (hex:¬ (r<1000000000/\(1000000000<=k\/r * 1000000000+x2<k * y2))),k<B/\k * V<=U+V:=by
   intro hex;have hkB:k<B:=by
    rcases Be k B with h | h
    ·exact h
    ·exfalso
     have h1:1000000000 * y1<=k * y1:=Aq _ h;have h2:x0 * 1000000000<=y1 * 1000000000:=Aq _ hx0;have:r<1000000000:=by omega
     exact hex ⟨this,.inl h⟩
   refine⟨hkB,aL8 (lu:=val (u.take m)) (lv:=val (lv.take m)) (c:=B) (v1:=y1) (v2:=y2) (u2:=x2) (p:=P) (r:=r) fU fV lV hgr au hy1p ?_⟩;rcases Be r B with h | h
   ·rcases Be (r * 1000000000+x2) (k * y2) with h2 | h2
    ·exact absurd ⟨h,.inr h2⟩ hex
    ·exact h2
   ·have h1:k * y2<=B * B:=Ef au au;have h2:B * B<=r * B:=Aq _ h;omega
  have step:∀ (h:r<1000000000/\(1000000000<=k\/r * 1000000000+x2<k * y2)),q<k:=by
   rintro⟨_,h | h⟩
   ·omega
   ·exact aMg (lu:=val (u.take m)) (c:=B) (v1:=y1) (v2:=y2) (u2:=x2) (p:=P) (r:=r) fU lU au hq1 hgr hqg h
  refine aC (aC (jA ?_));have iy:=iv _ (show m<m+2 by omega);have ix:=ia _ (show m<m+3 by omega);have iy1:=iv _ (show m+1<m+2 by omega);have out:∀ (hex:¬ (r<1000000000/\(1000000000<=k\/r * 1000000000+x2<k * y2))) (F':Fr) (S'':St),aD 0 F'= .sl b off (m+3) cap false->aD 1 F'= .sl bv 0 (m+2) (m+2) false->aD 5 F'= .int .i64 ((m+2:Nat):Int)->aD 7 F'= .int .u64 ((k:Nat):Int)->aD 74 F'= .bool false->S''.h=S.h->S.nx<=S''.nx->
    oD fns (.cond (.t 74) .skip (.exit 0)) ⟨F',false⟩ S'' (aAX fns (.block 1 (.seq (.reg [mt 75 7,oq 76 (bi .sub (.t 75) (.c (.int .u64 1))),mt 7 76])
     (.reg [mt 77 8,mt 78 1,mt 79 5,oq 80 (bi .sub (.t 79) (.c (.int .i64 1))),oq 81 (.cw (.slice 1) (.t 78) (.t 80)),oq 82 (ld 81),oq 83 (.conv (.int .u64) (.t 82)),oq 84 (bi .add (.t 77) (.t 83)),mt 8 84])))
     (aBh (aH3 S (.sl b off (m+3) cap false) (.sl bv 0 (m+2) (m+2) false) m y1 top q) k (vQ 0 fun o A' S'=>o= .normal/\A'.inr=false/\∃g,aD 0 A'.F= .sl b off (m+3) cap false/\aD 1 A'.F= .sl bv 0 (m+2) (m+2) false/\aD 5 A'.F= .int .i64 ((m+2:Nat):Int)/\aD 7 A'.F= .int .u64 ((g:Nat):Int)/\g<B/\q<=g/\g * V<=U+V/\S'.h=S.h/\S.nx<=S'.nx))):=by
   intro hex F' S'' t0 t1 t5 t7 t74 s1 s2;refine aM (by rw[eO,t74]) (bD ?_);refine aj ?_;exact⟨k,t0,t1,t5,t7,(fin hex).1,hqg,(fin hex).2,s1,s2⟩
  have inn:∀ (hex:r<1000000000/\(1000000000<=k\/r * 1000000000+x2<k * y2)) (F':Fr) (S'':St),aD 0 F'= .sl b off (m+3) cap false->aD 1 F'= .sl bv 0 (m+2) (m+2) false->aD 5 F'= .int .i64 ((m+2:Nat):Int)->aD 7 F'= .int .u64 ((k:Nat):Int)->aD 8 F'= .int .u64 ((r:Nat):Int)->aD 74 F'= .bool true->S''.h=S.h->S.nx<=S''.nx->
    oD fns (.cond (.t 74) .skip (.exit 0)) ⟨F',false⟩ S'' (aAX fns (.block 1 (.seq (.reg [mt 75 7,oq 76 (bi .sub (.t 75) (.c (.int .u64 1))),mt 7 76])
     (.reg [mt 77 8,mt 78 1,mt 79 5,oq 80 (bi .sub (.t 79) (.c (.int .i64 1))),oq 81 (.cw (.slice 1) (.t 78) (.t 80)),oq 82 (ld 81),oq 83 (.conv (.int .u64) (.t 82)),oq 84 (bi .add (.t 77) (.t 83)),mt 8 84])))
     (aBh (aH3 S (.sl b off (m+3) cap false) (.sl bv 0 (m+2) (m+2) false) m y1 top q) k (vQ 0 fun o A' S'=>o= .normal/\A'.inr=false/\∃g,aD 0 A'.F= .sl b off (m+3) cap false/\aD 1 A'.F= .sl bv 0 (m+2) (m+2) false/\aD 5 A'.F= .int .i64 ((m+2:Nat):Int)/\aD 7 A'.F= .int .u64 ((g:Nat):Int)/\g<B/\q<=g/\g * V<=U+V/\S'.h=S.h/\S.nx<=S'.nx))):=by
   intro hex F' S'' t0 t1 t5 t7 t8 t74 s1 s2;have hk:=step hex;refine aN (by rw[eO,t74]) (aH ?_);refine aj ?_;have wk:IntKind.u64.wrap ((k:Int) - 1)=((k - 1:Nat):Int):=by rw[wrap_u64 au au];omega
   have wr3:IntKind.u64.wrap ((r:Int)+(y1:Int))=((r+y1:Nat):Int):=by rw[wrap_u64 au au];omega
   refine aO (aC (aJ ?_));refine er t7 wk ?_;refine aJ ?_;simp only[↓stU,aB,rE,↓reduceIte,t1,t5,t8,wn1,iy1,s1,k1,wy1,wr3];have hky:(k - 1) * y1+(r+y1)=top:=by
    have:k * y1=(k - 1) * y1+y1:=by
     obtain⟨j,rfl⟩:∃j,k=j+1:=⟨k - 1,au⟩;rw[Gd,Cb];omega
    omega
   exact⟨k - 1,au,rfl,k - 1,r+y1,by simp [t0],by simp [t1],am t5,ak,ak,hky,au,rfl,au,au,s1,s2⟩
  by_cases c1:r<1000000000
  ·have d1:decide ((r:Int)<1000000000)=true:=Ab au;by_cases c2:1000000000<=k
   ·have d2:decide ((1000000000:Int)<=(k:Int))=true:=Ab au;refine ew p7 p8 d1 d2 ?_;exact inn ⟨c1,.inl c2⟩ _ _ (by simp [p0]) (by simp [p1]) (am p5) (am p7) (am p8) (ak) hh (by simp;omega)
   ·have d2:decide ((1000000000:Int)<=(k:Int))=false:=Aa au;by_cases c3:r * 1000000000+x2<k * y2
    ·have d3:decide (((r * 1000000000+x2:Nat):Int)<((k * y2:Nat):Int))=true:=Ab (Int.ofNat_lt.2 c3);simp only[↓stU,aB,rE,↓reduceIte,p0,p1,p5,p7,p8,d1,d2,wn2,iy,ix,hh,k2,l2,wy2,wx2,wg,wr,wr2,d3];exact inn ⟨c1,.inr c3⟩ _ _ (by simp [p0]) (by simp [p1]) (am p5) (am p7) (am p8) (ak) rfl (by simp;omega)
    ·have d3:decide (((r * 1000000000+x2:Nat):Int)<((k * y2:Nat):Int))=false:=Aa (fun h=>c3 (Int.ofNat_lt.1 h));simp only[↓stU,aB,rE,↓reduceIte,p0,p1,p5,p7,p8,d1,d2,wn2,iy,ix,hh,k2,l2,wy2,wx2,wg,wr,wr2,d3];exact out au _ _ (by simp [p0]) (by simp [p1]) (am p5) (am p7) (ak) rfl (by simp;omega)
  ·have d1:decide ((r:Int)<1000000000)=false:=Aa au;refine er p8 d1 ?_;exact out au _ _ (by simp [p0]) (by simp [p1]) (am p5) (am p7) (ak) hh (by simp;omega)
 rintro o ⟨F,inr⟩ S1 ⟨rfl,q0,g,p0,p1,p5,p7,hgB,hqg,hgV,hh,hnx⟩;simp only at q0 p0 p1 p5 p7;subst q0;refine aj ?_;have hlu:u.length=m+3:=hu;have dok:=fun(ul cr:Nat) (hul:ul<P * B * B) (hi:ul+g * V=val (u.take (m+2))+cr * (P * B * B))=>aM9 (U:=U) (V:=V) (q:=q) (g:=g) (ul:=ul) (uo:=val (u.take (m+2))) (x:=x0) (cr:=cr) (P:=P * B * B) (by rw[<-hU,eU0,ep2,Bf x0]) hq1 hq2 lVn hqg hgV hi hul;refine aY (aj ?_);refine aC (aX (Q:=fun o A' S'=>o= .normal/\A'.inr=false/\∃ (d:bt) (c:Nat),d.length=m+2/\aD 0 A'.F= .sl b off (m+3) cap false/\aD 1 A'.F= .sl bv 0 (m+2) (m+2) false/\aD 5 A'.F= .int .i64 ((m+2:Nat):Int)/\aD 7 A'.F= .int .u64 ((g:Nat):Int)/\aD 9 A'.F= .int .u64 ((c:Nat):Int)/\
   bN b S S'/\S'.h.get b=some (.cells (bL (p++(d++ [x0])++w)) false 0)/\bR d/\c<B/\val d+g * V=val (u.take (m+2))+c * (P * B * B)) ?_ ?_)
 ·refine aY (er p1 hlv ?_);refine aO (bJ (aQi b off S (.sl bv 0 (m+2) (m+2) false) m g p u w lv (.sl b off (m+3) cap false)) ?_ (m+2) _ _ ⟨rfl,0,[],0,au,rfl,by simp [p0],by simp [p1],am p5,am p7,by simp,by simp,ak,by simp,⟨hnx,fun c _ _=>by rw[hh]⟩,(by show S1.h.get b=_;rw[hh,hblk];simp),bR.nil,gS,by simp [cN]⟩);rintro k ⟨F,inr⟩ S2 ⟨q0,i,d,c,hik,hd,p0,p1,p5,p7,p9,p85,p86,p87,hS,hb2,hds,hcB,hinv⟩;simp only at q0 p0 p1 p5 p7 p9 p85 p86 p87;subst q0;have hv':S2.h.get bv=some (.cells (bL lv) false 0):=by rw[hS.2 bv hbv hne];exact hv
  refine aY ?_;by_cases hi:i<m+2
  ·have d1:decide ((i:Int)<((m+2:Nat):Int))=true:=Ab au;refine eu p86 p87 d1 ?_;refine aC (aN (ak) (aH ?_));refine aj ?_;have hul:i<(d++u.drop i).length:=by simp;omega
   have ldy:cT (.ptr bv (0+i * 1)) false 1 S2.h=some (.int .u32 ((lv[i]?.getD 0:Nat):Int)):=by rw[Bp,Au];exact yJ hv' au
   have ldx:cT (.ptr b (off+i * 1)) false 1 S2.h=some (.int .u32 ((u[i]?.getD 0:Nat):Int)):=by
    rw[Bp];have:=yJ hb2 (uM hp hul);rw[aCx hp hul] at this;rw[this];congr 4;rw[Az au,hd,Fk,Fd];rfl
   have hst:=fun x=>sR (w:=x) hb2 (uM hp hul);have hy:=getD_lt hvs i;have hx:=getD_lt hus i;have etv:=cK lv i;have etu:=cK u i;generalize lv[i]?.getD 0=y at *;generalize u[i]?.getD 0=x at *;have hgy:g * y<=999999999 * 999999999:=Ef au au;have w1:IntKind.u64.wrap (y:Int)=(y:Int):=wrap_u64 au au;have w2:IntKind.u64.wrap ((g:Int) * (y:Int))=((g * y:Nat):Int):=by rw[<-Bj];exact wrap_u64 au au
   have w3:IntKind.u64.wrap (((g * y:Nat):Int)+(c:Int))=((g * y+c:Nat):Int):=by rw[wrap_u64 au au];omega
   obtain⟨t,ht⟩:∃t,g * y+c=t:=⟨_,rfl⟩;rw[ht] at w3;have hquo:=aJ1 (.p .int) (t:=t) au;have hrem2:=aOo (.p .int) t;have hdm2:t / B * B+t % B=t:=by rw[Bf];exact Dl t B
   have hmod:t % B<1000000000:=Dn t gS;have hqB2:t / B<B:=by rw[Dq gS,hB];omega
   generalize t / B=tq at hquo hdm2 hqB2;generalize t % B=tr at hrem2 hdm2 hmod;have w4:IntKind.i64.wrap (x:Int)=(x:Int):=wrap_i64 au au;have w5:IntKind.i64.wrap (tr:Int)=(tr:Int):=wrap_i64 au au;have w6:IntKind.i64.wrap ((x:Int) - (tr:Int))=(x:Int) - (tr:Int):=wrap_i64 au au;refine aC (aO (aC (aJ ?_)));refine ew p85 p87 (iv i hi) ldy ?_;refine aY (e7 p7 p9 w1 w2 w3 ?_);refine aY (eo hquo ?_);refine aY (fa p0 (ia i au) ldx hrem2 w4 w5 w6 ?_);refine aC (aX (Q:=fun o A' S''=>o= .normal/\S''=S2/\A'.inr=false/\∃ (left c':Nat),left+tr+tq * B=x+c' * B/\left<B/\c'<B/\aD 0 A'.F= .sl b off (m+3) cap false/\aD 1 A'.F= .sl bv 0 (m+2) (m+2) false/\aD 5 A'.F= .int .i64 ((m+2:Nat):Int)/\aD 7 A'.F= .int .u64 ((g:Nat):Int)/\aD 9 A'.F= .int .u64 ((c':Nat):Int)/\aD 10 A'.F= .int .i64 (i:Int)/\aD 13 A'.F= .int .i64 (left:Int)/\aD 85 A'.F= .sl bv 0 (m+2) (m+2) false/\aD 86 A'.F= .int .i64 ((m+2:Nat):Int)/\aD 87 A'.F= .int .i64 (i:Int)) ?_ ?_)
   ·refine aY ?_;by_cases hneg:(x:Int) - (tr:Int)<0
    ·have d2:decide ((x:Int) - (tr:Int)<0)=true:=Ab hneg;have w7:IntKind.i64.wrap ((x:Int) - (tr:Int)+1000000000)=((x+1000000000 - tr:Nat):Int):=by rw[wrap_i64 au au];omega
     have w8:IntKind.u64.wrap ((tq:Int)+1)=((tq+1:Nat):Int):=by rw[wrap_u64 au au];omega
     refine eo d2 ?_;refine aN (ak) ?_;refine aY (eo w7 ?_);refine aJ (eo w8 ?_);refine⟨x+1000000000 - tr,tq+1,by rw[Cb,hB];omega,au,?_,p0,p1,p5,p7,rfl,rfl,p85,p86,p87⟩;have hcc:g * y<=999999999 * 999999999:=hgy;rw[hB] at hdm2 ⊢;omega
    ·have d2:decide ((x:Int) - (tr:Int)<0)=false:=Aa hneg;refine eo d2 ?_;refine aM (ak) (aH ?_);refine aj ?_;exact⟨x - tr,tq,au,au,hqB2,p0,p1,p5,p7,rfl,(by congr 1;omega),p85,p86,p87⟩
   ·rintro o ⟨F,inr⟩ S'' ⟨rfl,rfl,q0,left,c',hl,hlB,hc',p0,p1,p5,p7,p9,p10,p13,p85,p86,p87⟩;simp only at q0 p0 p1 p5 p7 p9 p10 p13 p85 p86 p87;subst q0;refine aj ?_;have w9:IntKind.u32.wrap (left:Int)=(left:Int):=wrap_u32 au au;have hst:=hst left;have hset:(p++(d++u.drop i)++w).set (off+i) left=p++(d++ [left]++u.drop (i+1))++w:=by
     rw[aGd hp hul];have:=set_mid (d:=d) (u:=u) (w:=left) au;rw[hd] at this;rw[this]
    rw[hset] at hst;refine aJ (e7 p0 p10 p13 w9 (ia i au) ?_);refine gB (fun call=>by refine eu @eC @cH @Bp ?_;exact hst) ?_;refine aj ?_;refine aJ ?_;have w10:=dq i
    refine er p87 w10 ?_;refine⟨k - 1,au,rfl,i+1,d++ [left],c',au,by simp [hd],am p0,am p1,am p5,am p7,am p9,am p85,am p86,ak,hS.put _,?_,bR.append.2 ⟨hds,fun z hz=>?_⟩,hc',?_⟩
    ·simp only;rw[dr,if_pos rfl]
    ·have:z=left:=by simpa using hz
     rw[this];exact hlB
    ·rw[fK,hd,etu,etv,Ci];exact aJ6 hinv ht.symm hdm2 hl
  ·have e:i=m+2:=by omega
   subst e;have d1:decide (((m+2:Nat):Int)<((m+2:Nat):Int))=false:=Aa au;refine eu p86 p87 d1 ?_;refine aC (aM (ak) (bD ?_));refine aj ?_;rw[hdr] at hb2;rw[Am au,hV,ep2] at hinv;exact⟨d,c,hd,p0,p1,p5,p7,p9,hS,hb2,hds,hcB,hinv⟩
 rintro o ⟨F,inr⟩ S2 ⟨rfl,q0,d,c,hd,p0,p1,p5,p7,p9,hS,hb2,hds,hcB,hinv⟩;simp only at q0 p0 p1 p5 p7 p9;subst q0;refine aj ?_;have hv':S2.h.get bv=some (.cells (bL lv) false 0):=by rw[hS.2 bv hbv hne];exact hv
 have hdP:val d<P * B * B:=by have:=eX hds;rwa [hd,ep2] at this
 have⟨ok1,ok2⟩:=dok (val d) c hdP hinv;have hul:m+2<(d++ [x0]).length:=by simp;omega
 have ldx:cT (.ptr b (off+(m+2) * 1)) false 1 S2.h=some (.int .u32 ((x0:Nat):Int)):=by
  rw[Bp];have:=yJ hb2 (uM hp hul);rw[aCx hp hul] at this;rw[this];congr 4;rw[Az au,hd,Fk];rfl
 refine aC (aX (Q:=fun o A' S'=>o= .normal/\A'.inr=false/\∃ (d':bt),d'.length=m+2/\aD 0 A'.F= .sl b off (m+3) cap false/\aD 5 A'.F= .int .i64 ((m+2:Nat):Int)/\aD 7 A'.F= .int .u64 ((q:Nat):Int)/\
   bN b S S'/\S'.h.get b=some (.cells (bL (p++(d'++ [x0])++w)) false 0)/\bR d'/\val d'=U - q * V) ?_ ?_)
 ·refine aY ?_;by_cases hxc:x0<c
  ·have d1:decide ((x0:Int)<(c:Int))=true:=Ab au;have⟨hg,hun⟩:=ok1 hxc;have wg:IntKind.u64.wrap ((g:Int) - 1)=((q:Nat):Int):=by rw[wrap_u64 au au];omega
   refine fa p0 p5 p9 (ia _ (show m+2<m+3 by omega)) ldx wx0 d1 ?_;refine aN (ak) ?_;refine aY (er p7 wg ?_);refine aY (aj ?_);refine aY (er p1 hlv ?_);have hdt:(d++ [x0]).take (m+2)=d:=by rw[<-hd,List.take_left' rfl]
   refine aO (bJ (aQj b off S (.sl bv 0 (m+2) (m+2) false) m q p (d++ [x0]) w lv (.sl b off (m+3) cap false)) ?_ (m+2) _ _ ⟨rfl,0,[],0,au,rfl,am p0,am p5,ak,ak,ak,ak,ak,hS,hb2,bR.nil,au,by simp [cN]⟩);rintro k ⟨F,inr⟩ S3 ⟨q0,i,e,cc,hik,he,p0,p5,p7,p14,p130,p131,p132,hS3,hb3,hes,hcc,hinv3⟩;simp only at q0 p0 p5 p7 p14 p130 p131 p132;subst q0;have hv3:S3.h.get bv=some (.cells (bL lv) false 0):=by rw[hS3.2 bv hbv hne];exact hv
   refine aY ?_;by_cases hi:i<m+2
   ·have d1:decide ((i:Int)<((m+2:Nat):Int))=true:=Ab au;refine eu p131 p132 d1 ?_;refine aC (aN (ak) (aH ?_));refine aj ?_;have hul3:i<(e++(d++ [x0]).drop i).length:=by simp;omega
    have ldy:cT (.ptr bv (0+i * 1)) false 1 S3.h=some (.int .u32 ((lv[i]?.getD 0:Nat):Int)):=by rw[Bp,Au];exact yJ hv3 au
    have ldx:cT (.ptr b (off+i * 1)) false 1 S3.h=some (.int .u32 (((d++ [x0])[i]?.getD 0:Nat):Int)):=by
     rw[Bp];have:=yJ hb3 (uM hp hul3);rw[aCx hp hul3] at this;rw[this];congr 4;rw[Az au,he,Fk,Fd];rfl
    have hst:=fun x=>sR (w:=x) hb3 (uM hp hul3);have hds0:bR (d++ [x0]):=bR.append.2 ⟨hds,lB hu0⟩;have hy:=getD_lt hvs i;have hx:=getD_lt hds0 i;have etv:=cK lv i;have etu:=cK (d++ [x0]) i;generalize lv[i]?.getD 0=y at *;generalize (d++ [x0])[i]?.getD 0=x at *;have w1:IntKind.u32.wrap ((x:Int)+(y:Int))=((x+y:Nat):Int):=by rw[wrap_u32 au au];omega
    have w2:IntKind.u32.wrap (((x+y:Nat):Int)+(cc:Int))=((x+y+cc:Nat):Int):=by rw[wrap_u32 au au];omega
    refine aC (aO (aC (aJ ?_)));refine ew p130 p132 (iv i hi) ldy ?_;refine aY (e9 p0 p14 (ia i au) ldx w1 w2 ?_);refine aY (aj ?_);refine aC (aX (Q:=fun o A' S''=>o= .normal/\S''=S3/\A'.inr=false/\∃ (left c':Nat),left+c' * B=x+y+cc/\left<B/\c'<=1/\aD 0 A'.F= .sl b off (m+3) cap false/\aD 5 A'.F= .int .i64 ((m+2:Nat):Int)/\aD 7 A'.F= .int .u64 ((q:Nat):Int)/\aD 14 A'.F= .int .u32 ((c':Nat):Int)/\aD 15 A'.F= .int .i64 (i:Int)/\aD 17 A'.F= .int .u32 (left:Int)/\aD 130 A'.F= .sl bv 0 (m+2) (m+2) false/\aD 131 A'.F= .int .i64 ((m+2:Nat):Int)/\aD 132 A'.F= .int .i64 (i:Int)) ?_ ?_)
    ·refine aY ?_;by_cases hge:1000000000<=x+y+cc
     ·have d2:decide ((1000000000:Int)<=((x+y+cc:Nat):Int))=true:=Ab au;have w7:IntKind.u32.wrap (((x+y+cc:Nat):Int) - 1000000000)=((x+y+cc - 1000000000:Nat):Int):=by rw[wrap_u32 au au];omega
      refine eo d2 ?_;refine aN (ak) ?_;refine aY (eo w7 ?_);refine aJ (aj ?_);exact⟨x+y+cc - 1000000000,1,au,au,au,p0,p5,p7,rfl,rfl,p130,p131,p132⟩
     ·have d2:decide ((1000000000:Int)<=((x+y+cc:Nat):Int))=false:=Aa au;refine eo d2 ?_;refine aM (ak) (aH ?_);refine aj ?_;exact⟨x+y+cc,0,au,au,au,p0,p5,p7,rfl,rfl,p130,p131,p132⟩
    ·rintro o ⟨F,inr⟩ S'' ⟨rfl,rfl,q0,left,c',hl,hlB,hc',p0,p5,p7,p14,p15,p17,p130,p131,p132⟩;simp only at q0 p0 p5 p7 p14 p15 p17 p130 p131 p132;subst q0;refine aj ?_;have hst:=hst left;have hset:(p++(e++(d++ [x0]).drop i)++w).set (off+i) left=p++(e++ [left]++(d++ [x0]).drop (i+1))++w:=by
      rw[aGd hp hul3];have:=set_mid (d:=e) (u:=d++ [x0]) (w:=left) (by simp;omega);rw[he] at this;rw[this]
     rw[hset] at hst;refine aJ (ew p0 p15 p17 (ia i au) ?_);refine gB (fun call=>by refine eu @eC @cH @Bp ?_;exact hst) ?_;refine aj ?_;refine aJ ?_;have w10:=dq i
     refine er p132 w10 ?_;refine⟨k - 1,au,rfl,i+1,e++ [left],c',au,by simp [he],am p0,am p5,am p7,am p14,am p130,am p131,ak,hS3.put _,?_,bR.append.2 ⟨hes,fun z hz=>?_⟩,hc',?_⟩
     ·simp only;rw[dr,if_pos rfl]
     ·have:z=left:=by simpa using hz
      rw[this];exact hlB
     ·rw[fK,he,etu,etv,Ci];exact aLj hinv3 hl
   ·have ei:i=m+2:=by omega
    subst ei;have d1:decide (((m+2:Nat):Int)<((m+2:Nat):Int))=false:=Aa au;refine eu p131 p132 d1 ?_;refine aC (aM (ak) (bD ?_));refine aj ?_;have hdr2:(d++ [x0]).drop (m+2)= [x0]:=by rw[<-hd,List.drop_left' rfl]
    rw[hdr2] at hb3;rw[hdt,Am au,hV,ep2] at hinv3;have heP:val e<P * B * B:=by have:=eX hes;rwa [he,ep2] at this
    exact⟨e,he,p0,p5,p7,hS3,hb3,hes,hun (val e) cc heP hinv3⟩
  ·have d1:decide ((x0:Int)<(c:Int))=false:=Aa au;have⟨hg,hun⟩:=ok2 hxc;refine fa p0 p5 p9 (ia _ (show m+2<m+3 by omega)) ldx wx0 d1 ?_;refine aM (ak) (aH ?_);refine aj ?_;subst hg;exact⟨d,hd,p0,p5,p7,hS,hb2,hds,hun⟩
 ·rintro o ⟨F,inr⟩ S3 ⟨rfl,q0,e,he,p0,p5,p7,hS3,hb3,hes,hval⟩;simp only at q0 p0 p5 p7;subst q0;refine aj ?_;have hul3:m+2<(e++ [x0]).length:=by simp;omega
  have hst:=sR (w:=0) hb3 (uM hp hul3);have hset:(p++(e++ [x0])++w).set (off+(m+2)) 0=p++(e++ [0])++w:=by
   rw[aGd hp hul3,<-he,Gy,if_neg au,Fk];rfl
  rw[hset] at hst;refine aY ?_;refine eu p0 p5 (ia _ (show m+2<m+3 by omega)) ?_;refine gB (fun call=>by refine eu @eC @cH @Bp ?_;exact hst) ?_;refine aj ?_;have w11:IntKind.u32.wrap (q:Int)=(q:Int):=wrap_u32 au au;refine aY (er p7 w11 ?_);refine aI (aj ?_);exact⟨hqB,e,he,(by rw[dr,if_pos rfl]),hes,hval,hS3.put _⟩
theorem nP(a:AV)(l:bo):lQ (.tup (a::l)) 0=some a:=rfl
theorem nN(a b:AV)(l:bo):lQ (.tup (a::b::l)) 1=some b:=rfl
theorem ex2(a b c:AV)(l:bo):lQ (.tup (a::b::c::l)) 2=some c:=rfl
theorem aFb{S:St}:bV S .cd 0:=⟨[],.inl ⟨rfl,.inl rfl⟩,qF,rfl⟩
theorem aOw{b off n cap i k:Nat}{F:Fr}{x y:cL}(hx:dY (x.val F)=some i)(hy:dY (y.val F)=some k)(h1:i<=k)(h2:k<=cap)(h3:i<cap):lA (.slice 1) (.sl b off n cap false) (some x) (some y) none F=some (.sl b (off+i * 1) (k - i) (cap - i) false):=by
 have e1:Nat.ble cap cap=true:=Ai (Af _);have e2:Nat.ble k cap=true:=Ai h2;have e3:Nat.ble i k=true:=Ai h1;have e4:Nat.beq cap i=false:=by rw[Bx];intro h;rw[Av] at h;omega
 simp only[lA,aDm,iA,gC,aL,hx,hy,e1,e2,e3,aP,e4,aS]
theorem aED{t:Nat}(ht:0<t)(htB:t<B):0<B / (t+1)/\B / (t+1) * (t+1)<=B/\B<=2 * (B / (t+1) * t)/\B / (t+1)<=500000000:=by
 have h1:0<B / (t+1):=Gc au au;have h2:B / (t+1) * (t+1)<=B:=Nat.div_mul_le_self ..;have h3:B<(t+1) * (B / (t+1)+1):=Nat.lt_mul_div_succ B au;have hB:B=1000000000:=rfl;generalize B / (t+1)=f at *;refine⟨h1,h2,?_,?_⟩
 ·rcases Be f 2 with h | h
  ·have:f=1:=by omega
   subst this;omega
  ·rcases Be t 2 with h4 | h4
   ·have:t=1:=by omega
    subst this;omega
   ·obtain⟨g,rfl⟩:∃g,f=g+2:=⟨f - 2,au⟩;obtain⟨s,rfl⟩:∃s,t=s+2:=⟨t - 2,au⟩;have e1:(s+2+1) * (g+2+1)=s * g+3 * s+3 * g+9:=by grind
    have e2:2 * ((g+2) * (s+2))=2 * (s * g)+4 * s+4 * g+8:=by grind
    rw[e1] at h3;rw[e2];generalize s * g=z at *;omega
 ·have:f * 2<=f * (t+1):=Bb _ au;omega
theorem aJB{x y f q r:Nat}(hf:0<f)(h:x * f=q * (y * f)+r)(hr:r<y * f):q=x / y/\r / f=x % y:=by
 have e1:x * f / (y * f)=q:=by
  rw[h,Fm,Nat.add_mul_div_right _ _ au,Gv hr];omega
 have e2:x * f % (y * f)=r:=by rw[h,Fm,Gf,Ek hr]
 rw[Nat.mul_div_mul_right _ _ hf] at e1;rw[Nat.mul_mod_mul_right] at e2;refine⟨e1.symm,?_⟩;rw[<-e2,Nat.mul_div_cancel _ hf]
def aQx(S:St)(bu bv bq:Nat)(u lv:bt)(size m f V:Nat)(k:Nat)(A:bK)(S':St):Prop:=
 A.inr=false/\∃ (r z qs:bt),k+(m+2)<=size/\r.length=m+2/\k+(m+2)+z.length=size/\qs.length+k+(m+2)=size/\aD 4 A.F= .sl bq 0 (size - (m+2)) (size - (m+2)) false/\aD 8 A.F= .int .i64 ((m+2:Nat):Int)/\aD 9 A.F= .int .u64 ((f:Nat):Int)/\aD 10 A.F= .sl bu 0 size size false/\aD 11 A.F= .sl bv 0 (m+2) (m+2) false/\aD 12 A.F= .int .i64 ((k:Int) - 1)/\
  Same S S'/\bu<S'.nx/\bv<S'.nx/\bq<S'.nx/\S'.h.get bu=some (.cells (bL (u.take k++r++z)) false 0)/\S'.h.get bv=some (.cells (bL lv) false 0)/\S'.h.get bq=some (.cells (bL (List.replicate k 0++qs)) false 0)/\bR r/\bR qs/\val r<V/\val (u.drop k)=val qs * V+val r
theorem aFf{x y:Nat}:decide (yV x y<0)=decide (x<y):=by
 unfold yV;split<;>(try split)<;>simp_all<;>omega
theorem aDc{S:St}{a b:AV}{x y:Nat}(H:Has fns)(ha:bV S a x)(hb:bV S b y)(hx:Fits x)(hy0:0<y):
  eR fns (.fn 121 [] []) [a,b] S fun r S'=>∃qv rv,r= .tup [qv,rv]/\bV S' qv (x / y)/\bV S' rv (x % y)/\Same S S':=by
 have hB:B=1000000000:=rfl;refine bE H.f121 (by simp) ?_;refine aj ?_;refine aY (aj ?_);refine dS (aj ?_);refine aK (aj ?_);refine aG (aAT H.f118 ha hb hx) ?_;rintro _ S1 ⟨rfl,hS1⟩;refine eo @aFf ?_;by_cases hlt:x<y
 ·refine aN (by simp only[↓stU,aB,rE,↓reduceIte,Ab hlt]) ?_;refine aY (aj ?_);refine aK (aj ?_);refine aG (mR H.f101 (ha.same hS1) hx) ?_;rintro rv S2 ⟨hr,hS2⟩;try refine aj ?_
  refine aI (aj ?_);rw[Gv hlt,Ek hlt];exact⟨.cd,rv,rfl,aFb,hr,hS1.trans hS2⟩
 refine aM (by simp only[↓stU,aB,rE,↓reduceIte,Aa hlt]) (aH ?_);refine aj ?_;have hge:y<=x:=by omega
 obtain⟨l,ha0,hl,rfl⟩:=ha;obtain⟨n,hb0,hn,rfl⟩:=hb;have ha:=ha0.same hS1;have hb:=hb0.same hS1;have hlen:=Fits.len hl hx;have hn0:n≠ []:=by rintro rfl;simp [cN] at hy0
 have hnl:n.length<=l.length:=by
  rcases Be l.length n.length with h | h
  ·have:=fF hl.1 hn h;omega
  ·exact h
 have hnp:0<n.length:=Du.2 hn0;refine dS (eo hb.len ?_);by_cases h1:n.length=1
 ·obtain⟨b0,rfl⟩:=Dg.1 h1;have d1:decide ((([b0].length:Nat):Int)=1)=true:=rfl;refine aN (am d1) ?_;have hb0B:b0<B:=hn.1 b0 (by simp);have hvb:val [b0]=b0:=by simp [dM,cN]
  rw[hvb] at hy0 ⊢;have hld:cT (nC b 0) false 1 S1.h=some (.int .u32 ((b0:Nat):Int)):=by have:=hb.ld (i:=0) (by simp);simpa using this
  have hia:dN (.slice 1) b 0=some (nC b 0):=hb.cw (i:=0) (by simp);have hnat0:dY (.int .i64 0)=some 0:=rfl;refine aY (eu hnat0 hia hld ?_);refine aK (aj ?_);refine aG (aD8 H.f139 H.f136 ha hl.1 hlen hy0 au) ?_;rintro _ S2 ⟨qv,rfl,hq,hS2⟩;refine er @nP @nN ?_;have hmod:val l % b0<b0:=Dn _ hy0;have w1:IntKind.u64.wrap ((val l % b0:Nat):Int)=((val l % b0:Nat):Int):=wrap_u64 au au;refine aY (eo w1 ?_);refine aK (aj ?_);refine aG (tT H.f82 au) ?_;rintro rv S3 ⟨hr,hS3⟩;try refine aj ?_
  refine aI (aj ?_);exact⟨qv,rv,rfl,hq.same hS3,hr,hS1.trans (hS2.trans hS3)⟩
 obtain⟨m,hm⟩:∃m,n.length=m+2:=⟨n.length - 2,au⟩;have d1:decide ((n.length:Int)=1)=false:=Aa au;refine aM (am d1) (aH ?_);refine aj ?_;have htl:=getD_lt hn.1 (m+1);have hvn:val n=val (n.take (m+1))+B ^ (m+1) * n[m+1]?.getD 0:=by
  have:=cK n (m+1);rwa [Am au] at this
 have hlow:val (n.take (m+1))<B ^ (m+1):=by have:=eX (hn.1.take (m+1));rwa [Bh,Cj au] at this
 have htp:0<n[m+1]?.getD 0:=by
  have h2:n[m+1]? =n.getLast? :=by rw[List.getLast?_eq_getElem?];congr 1;omega
  rcases Ap (n[m+1]?.getD 0) with h | h
  ·exfalso
   have h3:m+1<n.length:=by omega
   rw[Ad h3] at h h2;simp at h;exact hn.2 (by rw[<-h2,h])
  ·exact h
 have hld:=hb.ld (i:=m+1) au;rw[Ae] at hld;have hia:=hb.cw (i:=m+1) au;generalize n[m+1]?.getD 0=t at *;have⟨hf0,hf1,hf2,hf3⟩:=aED htp htl;have wn1:IntKind.i64.wrap ((n.length:Int) - 1)=((m+1:Nat):Int):=by rw[wrap_i64 au au];omega
 have wt:IntKind.u64.wrap (t:Int)=(t:Int):=wrap_u64 au au;have wt1:IntKind.u64.wrap ((t:Int)+1)=((t+1:Nat):Int):=by rw[wrap_u64 au au];omega
 have hquo:=iT (.p .int) (t:=B) (d:=t+1) au au;rw[show((B:Nat):Int)=1000000000 from rfl] at hquo;generalize B / (t+1)=f at *;refine aY (eo hb.len ?_);refine aY (e9 wn1 hia hld wt wt1 hquo ?_);have wl1:IntKind.i64.wrap ((l.length:Int)+1)=((l.length+1:Nat):Int):=by rw[wrap_i64 au au];omega
 have hbig:val l * f<B ^ (l.length+1):=by
  have h2:=eX hl.1;have h3:val l * f<=val l * B:=Bb _ au;have h4:val l * B<B ^ l.length * B:=Ei h2 gS;rw[Ci];omega
 have hbign:val n * f<B ^ (m+2):=by
  have h2:val n<B ^ (m+1) * (t+1):=by rw[Ca];omega
  have h3:val n * f<B ^ (m+1) * (t+1) * f:=Ei h2 hf0;have h4:B ^ (m+1) * (f * (t+1))<=B ^ (m+1) * B:=Bb _ hf1;have e:B ^ (m+1) * (t+1) * f=B ^ (m+1) * (f * (t+1)):=by grind
  rw[Ci];omega
 refine aY (er ha.len wl1 ?_);refine aK (aj ?_);refine aG (aDF H.f137 ha hl.1 au au au hbig) ?_;rintro _ S2 ⟨u,rfl,hnx2,hu,hul,hus,huv,hS2⟩;try refine aj ?_
 refine aY (aj ?_);refine aK (aj ?_);refine aG (aDF (size:=n.length) H.f137 (hb.same hS2) hn.1 au au au (by rw[hm];exact hbign)) ?_;rintro _ S3 ⟨lv,rfl,hnx3,hv,hvl,hvs,hvv,hS3⟩;try refine aj ?_
 rw[hm] at hvl;have wd:IntKind.i64.wrap ((l.length:Int) - (n.length:Int))=((l.length - n.length:Nat):Int):=by rw[wrap_i64 au au];omega
 have wd1:IntKind.i64.wrap (((l.length - n.length:Nat):Int)+1)=((l.length+1 - (m+2):Nat):Int):=by rw[wrap_i64 au au];omega
 have hmk:=fun F id (x:cL) (hx:dY (x.val F)=some (l.length+1 - (m+2)))=>kZ (t:=97) (s:=1) (bytes:=4) (z:=[AV.int .u32 0]) (l:=x) (c:=x) (F:=F) (id:=id) (n:=l.length+1 - (m+2)) hx hx ax ax;refine aY ?_;simp only[↓stU,aB,rE,↓reduceIte,ha.len,wd,wd1,↓sA];rw[hmk _ _ _ (ak)];refine aj ?_;refine dS (er ha.len wd ?_);have hV:val lv=val n * f:=hvv;have hB1:B ^ (m+1)<=val n:=by
  have:B ^ (m+1) * 1<=B ^ (m+1) * t:=Bb _ htp;omega
 have hVp:0<val lv:=by rw[hV];exact Em hy0 hf0
 have htopv:B<=2 * lv[m+1]?.getD 0:=by
  have e:=cK lv (m+1);rw[Am au] at e;have h2:val (lv.take (m+1))<B ^ (m+1):=by have:=eX (hvs.take (m+1));rwa [Bh,Cj au] at this
  generalize lv[m+1]?.getD 0=s at *;have h3:f * t * B ^ (m+1)<(s+1) * B ^ (m+1):=by
   have a1:B ^ (m+1) * t * f<=val n * f:=Aq _ au;have e1:B ^ (m+1) * t * f=f * t * B ^ (m+1):=by grind
   have e2:(s+1) * B ^ (m+1)=B ^ (m+1) * s+B ^ (m+1):=by grind
   omega
  have h4:f * t<s+1:=Ew h3;omega
 obtain⟨K,hK⟩:∃K,l.length+1 - (m+2)=K:=⟨_,rfl⟩;have hKl:K+(m+2)=l.length+1:=by omega
 have hrK:val (u.drop K)<val lv:=by
  have e:val u=val (u.take K)+B ^ K * val (u.drop K):=by
   have:=val_append (u.take K) (u.drop K)
   rwa [Bt,Bh,Cj au] at this
  have h2:val l * f<B ^ l.length * f:=Ei (eX hl.1) hf0;have e2:B ^ l.length=B ^ K * B ^ (m+1):=by rw[<-Hd];congr 1;omega
  have h3:B ^ K * val (u.drop K)<B ^ K * (B ^ (m+1) * f):=by
   have:B ^ l.length * f=B ^ K * (B ^ (m+1) * f):=by rw[e2,Bl]
   omega
  have h4:=Nat.lt_of_mul_lt_mul_left h3;have h5:B ^ (m+1) * f<=val n * f:=Aq _ hB1;omega
 have e12:((l.length - n.length:Nat):Int)=(K:Int) - 1:=by omega
 have hS13:=hS1.trans (hS2.trans hS3);rw[hm] at e12;rw[hm,hK];refine aX (Q:=fun o A' S'=>o= .normal/\aQx S S1.nx S2.nx S3.nx u lv (l.length+1) m f (val lv) 0 A' S') ?_ ?_
 ·refine aO (bJ (aQx S S1.nx S2.nx S3.nx u lv (l.length+1) m f (val lv)) ?_ K _ _ ⟨rfl,u.drop K,[],[],au,by simp;omega,by simp;omega,by simp;omega,am hK,ak,ak,ak,ak,am e12,?_,?_,?_,?_,?_,?_,?_,fun z hz=>hus z (Dh hz),bR.nil,hrK,by simp [cN]⟩)
  ·rintro k ⟨F,inr⟩ S' ⟨q0,r,z,qs,hk1,hr,hz,hq,p4,p8,p9,p10,p11,p12,hS,hn1,hn2,hn3,gu,gv,gq,hrs,hqs,hrV,hinv⟩;simp only at q0 p4 p8 p9 p10 p11 p12;subst q0;refine dS ?_;cases k with
   | zero=>
    have d2:decide ((0:Int)<=((0:Nat):Int) - 1)=false:=rfl;refine eo p12 ?_;refine aM (by simp only[↓stU,aB,rE,↓reduceIte];rfl) (bD ?_);refine aj ?_;exact⟨rfl,r,z,qs,hk1,hr,hz,hq,am p4,am p8,am p9,am p10,am p11,am p12,hS,hn1,hn2,hn3,gu,gv,gq,hrs,hqs,hrV,hinv⟩
   | succ j=>
    have e12:(((j+1:Nat):Int) - 1)=(j:Int):=by omega
    rw[e12] at p12;have d2:decide ((0:Int)<=(j:Int))=true:=Ab au;refine er p12 d2 ?_;refine aN (ak) (aH ?_);refine aj ?_;have hj:j<u.length:=by omega
    have hxB:=getD_lt hus j;have htk:u.take (j+1)=u.take j++ [u[j]?.getD 0]:=by rw[Cz,Ad hj];rfl
    have hdk:u.drop j=u[j]?.getD 0::u.drop (j+1):=by rw[Bo hj,Ad hj];rfl
    generalize u[j]?.getD 0=x at *;rw[htk,Bn (u.take j),show [x]++r=x::r from rfl] at gu;have wj1:IntKind.i64.wrap ((j:Int)+((m+2:Nat):Int))=((j+(m+2):Nat):Int):=by rw[wrap_i64 au au];omega
    have wj2:IntKind.i64.wrap (((j+(m+2):Nat):Int)+1)=((j+(m+3):Nat):Int):=by rw[wrap_i64 au au];omega
    have hslc:=fun(F:Fr) (a b:cL) ha hb=>aOw (b:=S1.nx) (off:=0) (n:=l.length+1) (cap:=l.length+1) (i:=j) (k:=j+(m+3)) (F:=F) (x:=a) (y:=b) ha hb au au au;have e3:j+(m+3) - j=m+3:=by omega
    rw[e3] at hslc;refine aC (aO (aJ ?_));refine fa p4 p8 p10 p11 p12 wj1 wj2 ?_;rw[hslc _ _ _ (ak) (ak)];refine eu p4 p11 p12 ?_;refine aK (aj ?_);have hwin:val (x::r)<val lv * B:=by
     rw[dM];have:B * (val r+1)<=B * val lv:=Bb _ hrV;rw[Ca] at this;have e:=Bf B (val lv);omega
    refine aG (aH4 (S:=S') (b:=S1.nx) (off:=0+j * 1) (m:=m) (cap:=l.length+1 - j) (bv:=S2.nx) (p:=u.take j) (u:=x::r) (w:=z) (lv:=lv) H.f138 gu gv au hn2 hvl (by simp [hr]) (by simp;omega) au (bR.cons.2 ⟨hxB,hrs⟩) hvs htopv hwin) ?_;rintro _ S4 ⟨rfl,hqd,d,hd,gu4,hds,hdv,hS4⟩;have gq4:S4.h.get S3.nx=some (.cells (bL (List.replicate (j+1) 0++qs)) false 0):=by rw[hS4.2 _ hn3 au];exact gq
    have gv4:S4.h.get S2.nx=some (.cells (bL lv) false 0):=by rw[hS4.2 _ hn2 au];exact gv
    have hdm:val (x::r) / val lv * val lv+val (x::r) % val lv=val (x::r):=by rw[Bf];exact Dl ..
    have hml:val (x::r) % val lv<val lv:=Dn _ hVp;rw[<-hdv] at hdm hml;generalize val (x::r) / val lv=dg at *;have hia:dN (.slice 1) (.sl S3.nx 0 (l.length+1 - (m+2)) (l.length+1 - (m+2)) false) j=some (.ptr S3.nx j):=by rw[jZ au];simp
    have hst:=sR (w:=dg) gq4 (p:=j) (by simp;omega);rw[aGi] at hst;refine eo hia ?_;refine gB (fun call=>by refine er @eC @cH ?_;exact hst) ?_;refine aj ?_;refine aJ ?_;have wj3:IntKind.i64.wrap ((j:Int) - 1)=(j:Int) - 1:=wrap_i64 au au;refine er p12 wj3 ?_;have hn4:=hS4.1;have hSS:Same S S4:=hS4.same hS (aw hS1.1);refine⟨j,au,rfl,d,[0]++z,dg::qs,au,hd,by simp;omega,by simp;omega,am p4,am p8,am p9,am p10,am p11,ak,?_,by simp only;omega,by simp only;omega,by simp only;omega,?_,?_,?_,hds,bR.cons.2 ⟨hqd,hqs⟩,hml,?_⟩
    ·exact hSS.put (aw hS13.1) _
    ·simp only;rw[dr,if_neg au,gu4];simp [Bn]
    ·simp only;rw[dr,if_neg au];exact gv4
    ·simp only;rw[dr,if_pos rfl]
    ·rw[hdk,dM,dM];refine aCE hinv (t:=val (x::r)) ?_ hdm;rw[dM,Bf];omega
  ·exact hS13.put (by exact hS13.1) _ |>.trans (Same.refl _) |>fun h=>⟨by have:=hS13.1;simp only;omega,h.2⟩
  ·have:=hS2.1;have:=hS3.1;simp only;omega
  ·have:=hS3.1;simp only;omega
  ·simp only;omega
  ·simp only;have:=hS2.1;have:=hS3.1;rw[dr,if_neg au,hS3.2 _ au,hu];simp
  ·simp only;rw[dr,if_neg au,hv]
  ·simp only;rw[dr,if_pos rfl,gF];simp
 ·rintro o ⟨F,inr⟩ S' ⟨rfl,q0,r,z,qs,hk1,hr,hz,hq,p4,p8,p9,p10,p11,p12,hS,hn1,hn2,hn3,gu,gv,gq,hrs,hqs,hrV,hinv⟩;simp only at q0 p4 p8 p9 p10 p11 p12;subst q0;simp only[Fq,Cn] at gu;simp only[List.replicate_zero,Cn] at gq;rw[Dd,huv,hV] at hinv;rw[hV] at hrV;have⟨hqe,hre⟩:=aJB hf0 hinv hrV;have hlu:=fL (n:=l.length+1) (o':=false) (cap:=l.length+1) gu hn1 (by simp;omega) (Af _);have hlt2:m+2<(r++z).length:=by simp;omega
  have hhd:=hlu.head hlt2;rw[show(r++z).take (m+2)=r by rw[<-hr,List.take_left' rfl]] at hhd;refine aj ?_;refine aY (er p8 p10 ?_);rw[hlu.slc hlt2 (ak)];refine aj ?_;refine aK (aj ?_);refine aG (nW H.f139 hhd hrs au) ?_;rintro rv S5 ⟨⟨r',hr1,hr2,hr3⟩,rfl⟩;have wf:IntKind.u32.wrap (f:Int)=(f:Int):=wrap_u32 au au;have hr'l:r'.length<=100000:=by
   have h6:val r<B ^ (m+2):=by have:=eX hrs;rwa [hr] at this
   have:=pQ (K:=m+2) hr2 (by rw[hr3];exact h6);omega
  refine er p9 wf ?_;refine aK (aj ?_);refine aG (aD8 H.f139 H.f136 hr1 hr2.1 hr'l hf0 au) ?_;rintro _ S6 ⟨rq,rfl,hrq,hS6⟩;refine er @nP @nN ?_;rw[hr3,hre] at hrq;have hq6:S6.h.get S3.nx=some (.cells (bL qs) false 0):=by rw[hS6.2 _ hn3];exact gq
  have hlq:=fL (n:=l.length+1 - (m+2)) (o':=false) (cap:=l.length+1 - (m+2)) hq6 (Ag hn3 hS6.1) au (Af _);refine aY (eo p4 ?_);refine aK (aj ?_);refine aG (nW H.f139 hlq hqs au) ?_;rintro qv S7 ⟨hqv,rfl⟩;rw[hqe] at hqv;try refine aj ?_
  refine aI (aj ?_);exact⟨qv,rq,rfl,hqv,hrq,hS.trans hS6⟩
def aQN:bo:=aDp.map fun n=>AV.int .u8 ((n:Nat):Int)
def Laid(S:St):Prop:=S.h.get 0=some (.ro aQN)/\True/\0<S.nx
theorem Laid.same{S S':St}(h:Laid S)(hs:Same S S'):Laid S':=by
 have⟨h1,h2,h3⟩:=h;have:=hs.1;exact⟨by rw[hs.2 _ au];exact h1,h2,au⟩
theorem aKg(e:oZ){a b:Nat}(ha:a<=18446744073709551615)(hb:b<=18446744073709551615):kH .and e (.int .u64 (a:Int)) (.int .u64 (b:Int))=some (.int .u64 ((Nat.land a b:Nat):Int)):=by
 show cQ .and .u64 (Int.ofNat a) .u64 (Int.ofNat b)=_;unfold cQ;rw[show eZ .and=false from rfl,aS,fQ,aP];show bM (Nat.ble a 18446744073709551615) (bM (Nat.ble b 18446744073709551615) _ _) _=_;rw[Ai ha,Ai hb];rfl
theorem aMT(e:oZ){a b:Nat}(ha:a<=18446744073709551615)(hb:b<=18446744073709551615):kH .or e (.int .u64 (a:Int)) (.int .u64 (b:Int))=some (.int .u64 ((Nat.lor a b:Nat):Int)):=by
 show cQ .or .u64 (Int.ofNat a) .u64 (Int.ofNat b)=_;unfold cQ;rw[show eZ .or=false from rfl,aS,fQ,aP];show bM (Nat.ble a 18446744073709551615) (bM (Nat.ble b 18446744073709551615) _ _) _=_;rw[Ai ha,Ai hb];rfl
theorem aBE(e:oZ)(j:IntKind){a n:Nat}(hn:n<=64):kH .shr e (.int .u64 (a:Int)) (.int j (n:Int))=some (.int .u64 ((a / 2 ^ n:Nat):Int)):=by
 show cQ .shr .u64 (Int.ofNat a) j (Int.ofNat n)=_;unfold cQ;rw[show eZ .shr=true from rfl,aP];show aA8 .shr .u64 (Int.ofNat a) n=_;unfold aA8;rw[show Nat.ble n IntKind.u64.bits=true from Ai hn,aP];show some (AV.int .u64 (Int.fdiv (a:Int) ((2 ^ n:Nat):Int)))=_;rw[Int.fdiv_eq_ediv_of_nonneg _ (Gw _)];rfl
theorem aLc(e:oZ)(j:IntKind){a n:Nat}(hn:n<=64):kH .shl e (.int .u64 (a:Int)) (.int j (n:Int))=some (.int .u64 (IntKind.u64.wrap ((a * 2 ^ n:Nat):Int))):=by
 show cQ .shl .u64 (Int.ofNat a) j (Int.ofNat n)=_;unfold cQ;rw[show eZ .shl=true from rfl,aP];show aA8 .shl .u64 (Int.ofNat a) n=_;unfold aA8;rw[show Nat.ble n IntKind.u64.bits=true from Ai hn,aP];show some (AV.int .u64 (aGD .u64 (Int.ofNat a) (Int.ofNat (2 ^ n))))=_;rw[aAG];rfl
theorem aFH(n:Nat):IntKind.u64.wrap (n:Int)=((n % 2 ^ 64:Nat):Int):=by
 simp [IntKind.wrap,IntKind.signed,IntKind.bits]
theorem w1g(k C:Nat):IntKind.u64.wrap (((2 ^ k:Nat):Int) * (C:Int))=((2 ^ k * C % 2 ^ 64:Nat):Int):=by
  rw[<-aFH,Bj]
theorem w1d:∀k,k<64->∃mm ix:Nat,IntKind.u64.wrap (((2 ^ k:Nat):Int) * 285870213051353865)=(mm:Int)/\mm / 2 ^ 58=ix/\aDp[ix]? =some k/\ix<64:=by
 intro k hk;have h:=w1g k 285870213051353865;have hb:=aIf k hk;have:∀mm,mm=2 ^ k * 285870213051353865 % 2 ^ 64->(aDp[mm / 2 ^ 58]? =some k)->∃mm ix:Nat,IntKind.u64.wrap (((2 ^ k:Nat):Int) * 285870213051353865)=(mm:Int)/\mm / 2 ^ 58=ix/\aDp[ix]? =some k/\ix<64:=by
  intro mm hmm hbb;rw[<-hmm] at h;exact⟨mm,mm / 2 ^ 58,h,rfl,hbb,(Aj.1 hbb).1⟩
 exact this _ rfl hb
theorem aGz{a:Nat}(ha:0<a)(ha2:a<=18446744073709551615):unV .neg (.int .u64 (a:Int))=some (.int .u64 ((2 ^ 64 - a:Nat):Int)):=by
 show some (AV.int .u64 (aEY .u64 (.ofNat 0) a))=_;rw[wA];congr 2;show IntKind.u64.wrap ((0:Int) - (a:Int))=_;simp only[IntKind.wrap,IntKind.signed,IntKind.bits,Bool.false_and,Ao,Bm];omega
theorem aFi{S:St}{x k:Nat}(H:Has fns)(hL:Laid S)(hx:x<=18446744073709551615)(hk:Tz x k):
  eR fns (.fn 133 [] []) [.int .u64 (x:Int)] S fun r S'=>r= .int .i64 (k:Int)/\S'=S:=by
 have hp:=hk.pos;have hk64:k<64:=hk.lt (n:=64) au;refine bE H.f133 (by simp) ?_;refine aj ?_;refine aY (aj ?_);refine dS ?_;have d1:decide ((x:Int)=0)=false:=Aa au;refine eo d1 ?_;refine aM (ak) (aH ?_);refine aj ?_;have hand:=aKg (.p .int) (a:=x) (b:=2 ^ 64 - x) hx au;rw[aPz hk au] at hand;have hun:=aGz hp hx;have⟨mm,ix,w1,hmi,hb,hix⟩:=w1d k hk64;have hshr:=aBE (.p .int) .u64 (a:=mm) (n:=58) ay;rw[show((58:Nat):Int)=58 from rfl,hmi] at hshr;have hia:dN (.arr 64 1) (.ptr 0 0) ix=some (.ptr 0 ix):=by
  show bM (Nat.blt ix 64) (some (AV.ptr 0 (0+ix * 1))) none=_;rw[show Nat.blt ix 64=true from Ai hix,aP];simp
 have hld:cT (.ptr 0 ix) false 1 S.h=some (.int .u8 (k:Int)):=by
  simp only[cT,iO,aS,jE,bU,hL.1,aL,dI,jI,aQN,Bk,hb,Fx]
 have w2:IntKind.i64.wrap (k:Int)=(k:Int):=wrap_i64 au au;refine aY (fa hun hand w1 hshr hia hld w2 ?_);refine aI ?_;simp only[↓stU,aB,rE,↓reduceIte]
def aRU(S:St)(s g:Nat)(k:Nat)(A:bK)(S':St):Prop:=
 A.inr=false/\S'=S/\∃a b,aD 0 A.F= .int .u64 ((a:Nat):Int)/\aD 1 A.F= .int .u64 ((b:Nat):Int)/\aD 5 A.F= .int .i64 (s:Int)/\a % 2=1/\a<=18446744073709551615/\b<=18446744073709551615/\Nat.gcd a b=g/\k=a+b
theorem qV{S:St}{x y:Nat}(H:Has fns)(hL:Laid S)(hx:x<=18446744073709551615)(hy:y<=18446744073709551615):
  eR fns (.fn 116 [] []) [.int .u64 (x:Int),.int .u64 (y:Int)] S fun r S'=>r= .int .u64 ((Nat.gcd x y:Nat):Int)/\S'=S:=by
 refine bE H.f116 (by simp) ?_;refine aj ?_;refine aY (aj ?_);refine dS (aj ?_);rcases Ap x with h0 | hxp
 ·subst h0;refine aN (by simp only[↓stU,aB,rE,↓reduceIte];rfl) ?_;refine aY (aj ?_);refine aI ?_;simp only[↓stU,aB,rE,↓reduceIte,Nat.gcd_zero_left]
 have d1:decide ((x:Int)=0)=false:=Aa au;refine aM (am d1) (aH ?_);refine aj ?_;refine dS (aj ?_);rcases Ap y with h0 | hyp
 ·subst h0;refine aN (by simp only[↓stU,aB,rE,↓reduceIte];rfl) ?_;refine aY (aj ?_);refine aI ?_;simp only[↓stU,aB,rE,↓reduceIte,Gh]
 have d2:decide ((y:Int)=0)=false:=Aa au;refine aM (am d2) (aH ?_);refine aj ?_;have⟨i,hi⟩:=aMm hxp;have⟨j,hj⟩:=aMm hyp;have hor:=aQf hi hj;have horl:Nat.lor x y<2 ^ 64:=Nat.or_lt_two_pow au au;have hi64:i<64:=hi.lt (n:=64) au;have hj64:j<64:=hj.lt (n:=64) au;refine aY ?_;refine eo (aMT (.p .int) hx hy) ?_;refine aK (aj ?_);refine aG (aFi H hL au hor) ?_;rintro _ T ⟨rfl,hT⟩;rw[hT];try refine aj ?_
 refine aY (aj ?_);refine aK (aj ?_);refine aG (aFi H hL hx hi) ?_;rintro _ T ⟨rfl,hT⟩;rw[hT];refine eo (aBE (.p .int) .i64 (a:=x) (n:=i) au) ?_;have⟨o1,o2,o3⟩:=hi.odd;have hsp:=aKh hi hj;have hax:x / 2 ^ i<=x:=Ea ..;generalize x / 2 ^ i=a at *;refine aC (aX (Q:=fun o A' S'=>o= .normal/\A'.inr=false/\S'=S/\aD 0 A'.F= .int .u64 ((Nat.gcd a y:Nat):Int)/\aD 5 A'.F= .int .i64 ((min i j:Nat):Int)) ?_ ?_)
 ·refine aO (bJ (aRU S (min i j) (Nat.gcd a y)) ?_ (a+y) _ _ ⟨rfl,rfl,a,y,ak,ak,ak,o1,au,hy,rfl,rfl⟩);rintro k ⟨F,inr⟩ S' ⟨q0,hS',a',b',p0,p1,p5,ho,ha',hb',hg,rfl⟩;simp only at q0 p0 p1 p5;subst q0;rw[hS'];refine dS (eo p1 ?_);rcases Ap b' with h0 | hbp
  ·subst h0;refine aM (by simp only[↓stU,aB,rE,↓reduceIte];rfl) (bD ?_);rw[Gh] at hg;subst hg;simp only[↓stU,aB,rE,↓reduceIte,p0,p5]
  have d3:decide (¬ (b':Int)=0)=true:=Ab au;refine aN (by simp only[↓stU,aB,rE,↓reduceIte,ne_eq,d3]) (aH ?_);refine aj ?_;have⟨t,ht⟩:=aMm hbp;have ht64:t<64:=ht.lt (n:=64) au;refine aO (aC (aJ ?_));refine eo p1 ?_;refine aK (aj ?_);refine aG (aFi H hL hb' ht) ?_;rintro _ T ⟨rfl,hT⟩;rw[hT];refine eo (aBE (.p .int) .i64 (a:=b') (n:=t) au) ?_;have⟨r1,r2,r3⟩:=ht.odd;have hgb:Nat.gcd a' (b' / 2 ^ t)=Nat.gcd a y:=by
   have:Nat.gcd a' b'=Nat.gcd a' (2 ^ t * (b' / 2 ^ t)):=by rw[<-r2]
   rw[<-hg,this,aCv ho]
  have hbx:b' / 2 ^ t<=b':=Ea ..;generalize b' / 2 ^ t=c at *;refine dS (eo p0 ?_);by_cases hgt:c<a'
  ·refine aN (by simp only[↓stU,aB,rE,↓reduceIte,Ab (show(c:Int)<(a':Int) by omega)]) ?_;refine aJ ?_;have w1:IntKind.u64.wrap ((a':Int) - (c:Int))=((a' - c:Nat):Int):=by rw[wrap_u64 au au];omega
   refine eo p0 ?_;refine aJ (eo w1 ?_);refine⟨c+(a' - c),au,rfl,rfl,c,a' - c,ak,ak,am p5,r1,au,au,?_,rfl⟩;rw[aJH au,Dx];exact hgb
  ·refine aM (by simp only[↓stU,aB,rE,↓reduceIte,Aa (show ¬ (c:Int)<(a':Int) by omega)]) (aH ?_);have w1:IntKind.u64.wrap ((c:Int) - (a':Int))=((c - a':Nat):Int):=by rw[wrap_u64 au au];omega
   refine aj ?_;refine aJ (er p0 w1 ?_);refine⟨a'+(c - a'),au,rfl,rfl,a',c - a',am p0,ak,am p5,ho,au,au,?_,rfl⟩;rw[aJH au];exact hgb
 ·rintro o ⟨F,inr⟩ S' ⟨rfl,q0,hS',p0,p5⟩;simp only at q0 p0 p5;subst q0;rw[hS'];refine aj ?_;refine aY ?_;have hle:Nat.gcd a y * 2 ^ (min i j)=Nat.gcd x y:=by rw[hsp,Bf]
  have hgle:Nat.gcd x y<=x:=Gk _ hxp;have w1:IntKind.u64.wrap ((Nat.gcd a y * 2 ^ (min i j):Nat):Int)=((Nat.gcd x y:Nat):Int):=by rw[hle];exact wrap_u64 au au
  refine ew p0 p5 (aLc (.p .int) .i64 (a:=Nat.gcd a y) (n:=min i j) au) w1 ?_;refine aI ?_;simp only[↓stU,aB,rE,↓reduceIte]
end Go.Ev.Gl
