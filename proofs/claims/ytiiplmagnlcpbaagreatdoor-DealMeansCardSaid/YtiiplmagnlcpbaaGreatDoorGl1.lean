import Derived.Test.YtiiplmagnlcpbaaGreatDoorGl0
import Derived.Test.YtiiplmagnlcpbaaGreatDoorIr0
import Derived.Test.YtiiplmagnlcpbaaGreatDoorIr1
import Derived.Test.YtiiplmagnlcpbaaGreatDoorIr2
import Derived.Test.YtiiplmagnlcpbaaGreatDoorIr3
set_option linter.unusedSimpArgs false
set_option linter.unusedVariables false
open Nat renaming reduceEqDiff -> rE, reduceAdd -> rA
set_option maxHeartbeats 0
namespace Go.Ev.Gl
structure Has(fns:T dD):Prop where
 f5:fns.get 5=some a5
 f8:fns.get 8=some a8
 f10:fns.get 10=some a10
 f12:fns.get 12=some a12
 f17:fns.get 17=some a17
 f19:fns.get 19=some a19
 f20:fns.get 20=some a20
 f21:fns.get 21=some a21
 f22:fns.get 22=some a22
 f23:fns.get 23=some a23
 f24:fns.get 24=some a24
 f25:fns.get 25=some a25
 f26:fns.get 26=some a26
 f29:fns.get 29=some a29
 f30:fns.get 30=some a30
 f33:fns.get 33=some a33
 f34:fns.get 34=some a34
 f40:fns.get 40=some a40
 f42:fns.get 42=some a42
 f43:fns.get 43=some a43
 f44:fns.get 44=some a44
 f45:fns.get 45=some a45
 f46:fns.get 46=some a46
 f47:fns.get 47=some a47
 f48:fns.get 48=some a48
 f49:fns.get 49=some a49
 f52:fns.get 52=some a52
 f56:fns.get 56=some a56
 f57:fns.get 57=some a57
 f58:fns.get 58=some a58
 f59:fns.get 59=some a59
 f60:fns.get 60=some a60
 f67:fns.get 67=some a67
 f68:fns.get 68=some a68
 f69:fns.get 69=some a69
 f70:fns.get 70=some a70
 f71:fns.get 71=some a71
 f72:fns.get 72=some a72
 f73:fns.get 73=some a73
 f76:fns.get 76=some a76
 f81:fns.get 81=some a81
 f82:fns.get 82=some a82
 f83:fns.get 83=some a83
 f84:fns.get 84=some a84
 f85:fns.get 85=some a85
 f86:fns.get 86=some a86
 f90:fns.get 90=some a90
 f91:fns.get 91=some a91
 f92:fns.get 92=some a92
 f93:fns.get 93=some a93
 f94:fns.get 94=some a94
 f97:fns.get 97=some a97
 f98:fns.get 98=some a98
 f99:fns.get 99=some a99
 f100:fns.get 100=some a100
 f101:fns.get 101=some a101
 f102:fns.get 102=some a102
 f103:fns.get 103=some a103
 f104:fns.get 104=some a104
 f105:fns.get 105=some a105
 f106:fns.get 106=some a106
 f107:fns.get 107=some a107
 f108:fns.get 108=some a108
 f110:fns.get 110=some a110
 f111:fns.get 111=some a111
 f112:fns.get 112=some a112
 f113:fns.get 113=some a113
 f114:fns.get 114=some a114
 f116:fns.get 116=some a116
 f117:fns.get 117=some a117
 f118:fns.get 118=some a118
 f119:fns.get 119=some a119
 f120:fns.get 120=some a120
 f121:fns.get 121=some a121
 f122:fns.get 122=some a122
 f123:fns.get 123=some a123
 f124:fns.get 124=some a124
 f125:fns.get 125=some a125
 f126:fns.get 126=some a126
 f127:fns.get 127=some a127
 f128:fns.get 128=some a128
 f129:fns.get 129=some a129
 f130:fns.get 130=some a130
 f131:fns.get 131=some a131
 f132:fns.get 132=some a132
 f133:fns.get 133=some a133
 f134:fns.get 134=some a134
 f135:fns.get 135=some a135
 f136:fns.get 136=some a136
 f137:fns.get 137=some a137
 f138:fns.get 138=some a138
 f139:fns.get 139=some a139
 f140:fns.get 140=some a140
 f141:fns.get 141=some a141
 f142:fns.get 142=some a142
 f143:fns.get 143=some a143
 f144:fns.get 144=some a144
 f145:fns.get 145=some a145
 f146:fns.get 146=some a146
 f147:fns.get 147=some a147
 f148:fns.get 148=some a148
 f149:fns.get 149=some a149
 f150:fns.get 150=some a150
 f151:fns.get 151=some a151
 f152:fns.get 152=some a152
 f153:fns.get 153=some a153
 f154:fns.get 154=some a154
 f171:fns.get 171=some a171
 f172:fns.get 172=some a172
 f173:fns.get 173=some a173
 f174:fns.get 174=some a174
 f175:fns.get 175=some a175
 f176:fns.get 176=some a176
variable {fns:T dD}
theorem aD3{S:St}{v:AV}{l:bt}(hfn:fns.get 117=some a117)(h:cO S v l):eT fns (.fn 117 [] []) [v] S fun r S'=>r= .bool (decide (l= [1]))/\S'=S:=by
 refine bL hfn (by simp) ?_;simp;refine bK ?_;simp;refine bK ?_;by_cases h1:l.length=1
 ·have hlt:0<l.length:=by omega
  simp [h.len,h1,h.cq hlt,h.ld hlt];refine aK ?_;simp;obtain⟨x,rfl⟩:=De.1 h1;simp;constructor<;>intro h<;>omega
 ·have h2:¬ ((l.length:Int)=1):=by omega
  simp [h.len,h2];refine aK ?_;have h3:l≠ [1]:=fun e=>by subst e;simp at h1
  simp [h3]
theorem qR{S:St}{v:AV}{l:bt}(hfn:fns.get 139=some a139)(h:cO S v l)(hs:cK l)(hlen:l.length<1000000000000):eT fns (.fn 139 [] []) [v] S fun r S'=>dG S r (val l)/\S'=S:=by
 refine bL hfn (by simp) ?_;simp;refine bK ?_;simp;refine aE (aQ (bX (fun k A S'=>S'=S/\A.inr=false/\∃u m,aB 0 A.F=u/\cO S u m/\m.length=k/\cK m/\val m=val l/\m.length<=l.length) ?_ l.length _ _ ⟨rfl,rfl,v,l,by simp,h,rfl,hs,rfl,Af _⟩));rintro k ⟨F,inr⟩ S' ⟨rfl,rfl,u,m,h0,hu,hk,hsm,hv,hle⟩;simp only at h0;refine fA ?_;by_cases hm:m= []
 ·subst hm;simp [h0,hu.len];refine aO (by simp) (bS ?_);simp;refine bK ?_;simp [h0];refine aK ?_;simp;exact⟨[],hu,uE,by rw[<-hv]⟩
 ·obtain⟨m',x,rfl⟩:∃m' x,m=m'++ [x]:=⟨m.dropLast,m.getLast hm,(Gb hm).symm⟩;have hL:(m'++ [x]).length=m'.length+1:=by simp
  have hlt:m'.length<(m'++ [x]).length:=by omega
  have hpos:(0:Int)<(m'.length:Int)+1:=by omega
  have e1:IntKind.i64.wrap (m'.length:Int)=(m'.length:Int):=wrap_i64 au (by rw[hL] at hle;omega);have e2:(m'++ [x]).getD m'.length 0=x:=by simp
  have hlen':=hu.len;rw[hL] at hlen';have hiad:=hu.cq hlt;have hld:=hu.ld hlt;rw[e2] at hld;simp [h0,hlen',hpos,e1,hiad,hld];refine jG (t:=decide (x=0)) (by simp) (fun hx=>aJ ?_) (fun hx=>bS ?_)
  ·have hx:x=0:=by simpa using hx
   subst hx;simp;refine aQ (aM ?_);have hh:=hu.head hlt;rw[List.take_left' rfl] at hh;simp [h0,hlen',e1,hu.slc hlt];refine⟨m'.length,au,m',hh,rfl,(cK.append.1 hsm).1,?_,au⟩;rw[<-hv,iO,Nat.mul_zero,Bm]
  ·have hx:x≠0:=by simpa using hx
   simp;refine bK ?_;simp [h0];refine aK ?_;simp;exact⟨m'++ [x],hu,⟨hsm,by simp [hx]⟩,hv⟩
theorem aBk{l:bt}{j:Nat}(h:j<l.length):l=l.take j++(l.getD j 0::l.drop (j+1)):=by
 have:l.getD j 0=l[j]:=by simp [Ae,h]
 rw[this,List.getElem_cons_drop,Dl]
theorem aFl{l m:bt}{j:Nat}(hl:cK l)(hj:j<l.length)(hlen:l.length=m.length)(hd:l.drop (j+1)=m.drop (j+1))(h:l.getD j 0<m.getD j 0):val l<val m:=by
 rw[aBk hj,aBk (l:=m) (j:=j) au,val_append,val_append,eZ,eZ,hd];have h1:=iA (hl.take j);have e1:(l.take j).length=j:=by simp;omega
 have e2:(m.take j).length=j:=by simp;omega
 rw[e1,e2];rw[e1] at h1;generalize l.getD j 0=x at h;generalize m.getD j 0=y at h;generalize val (l.take j)=p at h1;generalize val (m.take j)=q;generalize val (m.drop (j+1))=r;generalize B ^ j=b at h1;have h2:b * (x+1+B * r)<=b * (y+B * r):=Bh _ au;have h3:b * (x+1+B * r)=b * (x+B * r)+b:=by rw[show x+1+B * r=(x+B * r)+1 by omega,Cn,Bt]
 omega
def aER(x y:Nat):Int:=if x<y then -1 else if x=y then 0 else 1
theorem aEt{S:St}{a b:AV}{x y:Nat}(hfn:fns.get 118=some a118)(ha:dG S a x)(hb:dG S b y)(hx:Fits x):eT fns (.fn 118 [] []) [a,b] S fun r S'=>r= .int .i64 (aER x y)/\Same S S':=by
 obtain⟨l,ha,hl,rfl⟩:=ha;obtain⟨m,hb,hm,rfl⟩:=hb;have hlen:=Fits.len hl hx;refine bL hfn (by simp) ?_;simp;refine bK ?_;simp;refine fA ?_;simp [ha.len,hb.len];refine jG (t:=decide (l.length≠m.length)) (by simp;omega) (fun h=>?_) (fun h=>?_)
 ·have hne:l.length≠m.length:=by simpa using h
  refine fA ?_;simp [ha.len,hb.len];refine jG (t:=decide (l.length<m.length)) (by simp) (fun h=>?_) (fun h=>aJ ?_)
  ·have hlt:l.length<m.length:=by simpa using h
   refine bK ?_;simp;refine aK ?_;have:=gK hl.1 hm hlt;simp [aER,this,Same.refl]
  ·have hlt:¬l.length<m.length:=by simpa using h
   simp;refine bK ?_;simp;refine aK ?_;have:=gK hm.1 hl au;simp [aER,show ¬val l<val m by omega,show ¬val l=val m by omega,Same.refl]
 ·have heq:l.length=m.length:=by simpa using h
  refine aJ ?_;simp;refine fA ?_;simp [ha.len];refine aQ (bX (fun k A S'=>Same S S'/\A.inr=false/\aB 0 A.F=a/\aB 1 A.F=b/\aB 5 A.F= .int .i64 ((k:Int) - 1)/\k<=l.length/\l.drop k=m.drop k) ?_ l.length _ _ ⟨Same.refl S,rfl,by simp,by simp,by simp;exact wrap_i64 au au,Af _,by rw[List.drop_length,heq,List.drop_length]⟩);rintro k ⟨F,inr⟩ S' ⟨hS,rfl,h0,h1,h5,hk,hd⟩;simp only at h0 h1 h5;have ha':=ha.same hS;have hb':=hb.same hS;refine fA ?_;cases k with
  | zero=>
   simp [h5];refine aO (by simp) (bS ?_);simp;refine bK ?_;simp;refine aK ?_;have:l=m:=by simpa using hd
   simp [aER,this,hS]
  | succ j=>
   have hj:j<l.length:=by omega
   have hj':j<m.length:=by omega
   have e5:aB 5 F= .int .i64 (j:Int):=by rw[h5];congr 1;omega
   simp [e5];refine aP (by simp) (aJ ?_);simp;refine aE (aQ (aE (aE (vC ?_))));simp [h0,h1,e5,ha'.cq hj,hb'.cq hj',ha'.ld hj,hb'.ld hj'];have hS1:Same S ⟨S'.h,S'.nx+9⟩:=⟨Bb hS.1 (by simp),hS.2⟩;refine jG (t:=decide (l.getD j 0<m.getD j 0)) (by simp) (fun h=>?_) (fun h=>aJ ?_)
   ·have hlt:l.getD j 0<m.getD j 0:=by simpa using h
    refine bK ?_;simp;refine aK ?_;have:=aFl hl.1 hj heq hd hlt;simp [aER,this,hS1]
   ·have hge:¬l.getD j 0<m.getD j 0:=by simpa using h
    have ha2:=ha.same hS1;have hb2:=hb.same hS1;have la2:=ha2.ld hj;have lb2:=hb2.ld hj';simp only at la2 lb2;simp;refine aE (vC ?_);simp [h0,h1,e5,ha2.cq hj,hb2.cq hj',la2,lb2];have hS2:Same S ⟨S'.h,S'.nx+9+9⟩:=⟨Bb hS.1 (by simp;omega),hS.2⟩;refine jG (t:=decide (m.getD j 0<l.getD j 0)) (by simp) (fun h=>?_) (fun h=>aJ ?_)
    ·have hlt:m.getD j 0<l.getD j 0:=by simpa using h
     refine bK ?_;simp;refine aK ?_;have:=aFl hm.1 hj' heq.symm hd.symm hlt;simp [aER,show ¬val l<val m by omega,show ¬val l=val m by omega,hS2]
    ·have hge2:¬m.getD j 0<l.getD j 0:=by simpa using h
     simp;refine aM ?_;simp [e5];refine⟨j,au,hS2,by simp [h0],by simp [h1],by exact wrap_i64 au au,au,?_⟩;have e1:=aBk hj;have e2:=aBk hj';have:l.getD j 0=m.getD j 0:=by omega
     rw[Bw hj,Bw hj',hd];congr 1;simpa [Ae,hj,hj'] using this
def cC(l:bt):bo:=l.map fun x=>AV.int .u32 ((x:Nat):Int)
theorem jZ(l:bt):(cC l).length=l.length:=by simp [cC]
theorem repeatL_one{α:Type}(z:α):∀n,repeatL [z] n=List.replicate n z
 | 0=>rfl
 | n+1=>by rw[kH,repeatL_one z n,List.replicate_succ];rfl
theorem jF(n:Nat):repeatL [AV.int .u32 0] n=cC (List.replicate n 0):=by rw[repeatL_one];simp [cC]
theorem oJ{t s bytes:Nat}{z:bo}{l c:cP}{F:Fr}{id n:Nat}(hl:dS (l.val F)=some n)(hc:dS (c.val F)=some n)(h1:n<=room)(h2:bytes * n<=room):
  tA (.df t s bytes z l c) F id=some (.sl id 0 n n false,.cells (repeatL z n) false 0):=by
 show(aU (dS (l.val F)) fun l=>aU (dS (c.val F)) fun c=>bO (Nat.ble l c) (bO (Nat.ble c room) (bO (Nat.ble (bytes * c) room) (some (AV.sl id 0 l c false,AB.cells (repeatL z c) false 0)) none) none) none)=_;rw[hl,aH,hc,aH,Ah (Af n),Ah h1,Ah h2];rfl
theorem aRE{S:St}{b i:Nat}{l:bt}{o:Bool}{sz x:Nat}(h:S.h.get b=some (.cells (cC l) o sz))(hi:i<l.length):
  oT (.ptr b (0+i * 1)) 1 [.int .u32 ((x:Nat):Int)] S=some (.undef,⟨S.h.set b (some (.cells (cC (l.set i x)) o sz)),S.nx⟩):=by
 have hp:put (cC l) (0+i * 1) [AV.int .u32 ((x:Nat):Int)]=some (cC (l.set i x)):=by
  rw[put_eq,if_pos (by simp [jZ];omega)];congr 1;rw[Ao,Bt];unfold cC;rw[<-List.map_take,<-List.map_drop,Ez,if_pos hi];simp
 simp only[oT,mU,h,aH,rJ,hp];rfl
theorem mF{S:St}{b n:Nat}{l:bt}{o o':Bool}{sz cap:Nat}(h:S.h.get b=some (.cells (cC l) o sz))(hb:b<S.nx)(hn:n=l.length)(hc:n<=cap):cO S (.sl b 0 n cap o') l:=by
 subst hn;refine .inr ⟨b,0,cap,o',cC l,by simp,by simpa using hc,hb,by simp [cA,h,dN],fun i x hx=>?_⟩;rw[Ao];rw[Bz,Ax] at hx;obtain⟨y,hy,rfl⟩:=hx;simp [cC,hy]
theorem qQ{d:bt}{n x:Nat}(h:d.length<n):(d++List.replicate (n - d.length) 0).set d.length x=d++ [x]++List.replicate (n - (d.length+1)) 0:=by
 obtain⟨k,hk⟩:∃k,n - d.length=k+1:=⟨n - d.length - 1,au⟩;rw[hk,show n - (d.length+1)=k by omega,List.replicate_succ];simp [Hh]
theorem aNn{p q r x y w br br' c:Nat}(hinv:p+br * c=q+r)(hw:x+br' * B=y+br+w)(hp:True):(p+c * x)+br' * (c * B)=(q+c * y)+(r+c * w):=by
 have h1:c * (x+br' * B)=c * (y+br+w):=by rw[hw]
 rw[Cn,Cn,Cn] at h1;have h2:c * (br' * B)=br' * (c * B):=by rw[<-Bl,Bi c br',Bl]
 have h3:c * br=br * c:=Bi _ _;omega
theorem aET{l:bt}{i:Nat}:val (l.take (i+1))=val (l.take i)+B ^ (min i l.length) * l.getD i 0:=by
 by_cases h:i<l.length
 ·rw[Dh,Ad h,Option.toList_some,iO];simp [Ae,h]
 ·rw[Ay au,Ay au];simp [Ae,show l.length<=i by omega]
theorem gJ{l:bt}{i:Nat}:val (l.take (i+1))=val (l.take i)+B ^ i * l.getD i 0:=by
 rw[aET];by_cases h:i<l.length
 ·rw[Dm au]
 ·simp [Ae,show l.length<=i by omega]
theorem lY{b off n cap i:Nat}{o:Bool}(hi:i<n):dT (.slice 1) (.sl b off n cap o) i=some (.ptr b (off+i * 1)):=by
 have:Nat.blt i n=true:=Ah hi;simp [dT,this]
def aTB(S:St)(a b:AV)(l m:bt)(k:Nat)(A:bN)(S':St):Prop:=
 A.inr=false/\∃ (i:Nat) (d:bt) (br:Nat),i+k=l.length/\d.length=i/\aB 1 A.F=b/\aB 5 A.F= .sl S.nx 0 l.length l.length false/\aB 6 A.F= .int .i64 (br:Int)/\aB 13 A.F=a/\
  aB 14 A.F= .int .i64 (l.length:Int)/\aB 15 A.F= .int .i64 (i:Int)/\Same S S'/\S.nx<S'.nx/\S'.h.get S.nx=some (.cells (cC (d++List.replicate (l.length - i) 0)) false 0)/\cK d/\br<=1/\
  val (l.take i)+br * B ^ i=val (m.take i)+val d
theorem aHc{S:St}{a b:AV}{x y:Nat}(h_trim:fns.get 139=some a139)(hfn:fns.get 153=some a153)(ha:dG S a x)(hb:dG S b y)(hxy:y<=x)(hx:Fits x):
  eT fns (.fn 153 [] []) [a,b] S fun r S'=>dG S' r (x - y)/\Same S S':=by
 obtain⟨l,ha,hl,rfl⟩:=ha;obtain⟨m,hb,hm,rfl⟩:=hb;have hlen:=Fits.len hl hx;have hml:m.length<=l.length:=by
  rcases Bj l.length m.length with h | h
  ·have:=gK hl.1 hm h;omega
  ·exact h
 have hr1:l.length<=room:=by unfold room;omega
 have hr2:4 * l.length<=room:=by unfold room;omega
 refine bL hfn (by simp) ?_;simp;refine bK ?_;simp;refine bK ?_;simp [ha.len,oJ (n:=l.length),hr1,hr2];refine bK ?_;simp;refine fA ?_;simp [ha.len];refine aQ (bX (aTB S a b l m) ?_ l.length _ _ ⟨rfl,0,[],0,by simp,rfl,by simp,by simp,by simp,by simp,by simp,by simp,Same.alloc S _,by simp,?_,cK.nil,by simp,by simp [dV]⟩)
 ·rintro k ⟨F,inr⟩ S' ⟨h0,i,d,br,hk,hd,h1,h5,h6,h13,h14,h15,hS,hnx,hblk,hsd,hbr,hinv⟩;simp only at h0 h1 h5 h6 h13 h14 h15;subst h0;have ha':=ha.same hS;have hb':=hb.same hS;refine bK ?_;simp [h14,h15];refine aE (jG (t:=decide (i<l.length)) (by simp) (fun h=>aJ ?_) (fun h=>bS ?_))
  ·have hi:i<l.length:=by simpa using h
   have hx:l.getD i 0<B:=by
    have:=hl.1.get (Ad hi);simpa [Ae,hi] using this
   have hy:m.getD i 0<B:=by
    by_cases h:i<m.length
    ·have:=hm.1.get (Ad h);simpa [Ae,h] using this
    ·simp [Ae,show m.length<=i by omega,B]
   rw[Ae] at hx hy;have hld:=ha'.ld hi;rw[Ae] at hld;have hyld:∀h:i<m.length,dJ (nQ b i) false 1 S'.h=some (.int .u32 ((m[i]?.getD 0:Nat):Int)):=fun h=>by
    have:=hb'.ld h
    rwa [Ae] at this
   have hyz:¬i<m.length->m[i]?.getD 0=0:=fun h=>by simp [show m.length<=i by omega]
   have etk:val (l.take (i+1))=val (l.take i)+B ^ i * (l[i]?.getD 0):=by rw[gJ,Ae]
   have emk:val (m.take (i+1))=val (m.take i)+B ^ i * (m[i]?.getD 0):=by rw[gJ,Ae]
   generalize l[i]?.getD 0=xv at hx hld etk;generalize m[i]?.getD 0=yv at hy hyld hyz emk;have hB:B=1000000000:=rfl;have w1:IntKind.i64.wrap (xv:Int)=xv:=wrap_i64 au au;have w2:IntKind.i64.wrap ((xv:Int) - br)=xv - br:=wrap_i64 au au;have w3:IntKind.i64.wrap (yv:Int)=yv:=wrap_i64 au au;have w4:IntKind.i64.wrap ((xv:Int) - br - yv)=xv - br - yv:=wrap_i64 au au;refine aE (aQ (aE (aM ?_)));simp [h13,h15,ha'.cq hi,hld];refine bK ?_;simp [h6,w1,w2];refine aE (bG (Q:=fun o A' S''=>o= .normal/\S''=S'/\A'.inr=false/\aB 1 A'.F=b/\aB 5 A'.F= .sl S.nx 0 l.length l.length false/\aB 7 A'.F= .int .i64 (i:Int)/\aB 9 A'.F= .int .i64 ((xv:Int) - br - yv)/\aB 13 A'.F=a/\aB 14 A'.F= .int .i64 (l.length:Int)/\aB 15 A'.F= .int .i64 (i:Int)) ?_ ?_)
   ·refine bK ?_;simp [h1,hb'.len];refine jG (t:=decide (i<m.length)) (by simp) (fun h=>?_) (fun h=>aJ ?_)
    ·have him:i<m.length:=by simpa using h
     refine aM ?_;simp [h1,hb'.cq him,hyld him,w3,w4,h5,h13,h14,h15]
    ·have him:¬i<m.length:=by simpa using h
     have:=hyz him;subst this;simp [h1,h5,h13,h14,h15]
   rintro o ⟨F2,inr2⟩ S'' ⟨rfl,rfl,rfl,g1,g5,g7,g9,g13,g14,g15⟩;simp only at g1 g5 g7 g9 g13 g14 g15;simp;refine bK ?_;simp;refine aE (bG (Q:=fun o A' S2=>o= .normal/\S2=S''/\A'.inr=false/\aB 1 A'.F=b/\aB 5 A'.F= .sl S.nx 0 l.length l.length false/\aB 7 A'.F= .int .i64 (i:Int)/\aB 13 A'.F=a/\aB 14 A'.F= .int .i64 (l.length:Int)/\aB 15 A'.F= .int .i64 (i:Int)/\
    ∃br' wv:Nat,aB 6 A'.F= .int .i64 (br':Int)/\aB 9 A'.F= .int .i64 (wv:Int)/\br'<=1/\wv<B/\xv+br' * B=yv+br+wv) ?_ ?_)
   ·refine bK ?_;simp [g9];refine jG (t:=decide ((xv:Int) - br - yv<0)) (by simp) (fun h=>?_) (fun h=>aJ ?_)
    ·have hneg:(xv:Int) - br - yv<0:=by simpa using h
     have w5:IntKind.i64.wrap ((xv:Int) - br - yv+1000000000)=((xv+B - br - yv:Nat):Int):=by rw[wrap_i64 au au];omega
     refine bK ?_;simp [g9,w5];refine aM ?_;simp [g1,g5,g7,g13,g14,g15];exact⟨1,rfl,xv+B - br - yv,rfl,au,au,au⟩
    ·have hneg:¬ (xv:Int) - br - yv<0:=by simpa using h
     simp [g1,g5,g7,g9,g13,g14,g15];exact⟨0,by simp,xv - br - yv,au,au,au,au⟩
   rintro o ⟨F3,inr3⟩ S2 ⟨rfl,rfl,rfl,f1,f5,f7,f13,f14,f15,br',wv,f6,f9,hbr',hwv,heq⟩;simp only at f1 f5 f7 f13 f14 f15 f6 f9;have w6:IntKind.u32.wrap (wv:Int)=wv:=wrap_u32 au au;simp;refine aM ?_;simp [f5,f7,f9,w6,lY hi];have hst:=aRE (x:=wv) hblk (i:=i) (by simp [hd];omega);rw[<-hd,qQ au,hd] at hst;simp only[Ao,Bt] at hst;refine fK (v:=.undef) (fun call=>by simp;exact hst) ?_;simp;refine aM ?_;have w7:=dk i
   simp [f15,w7];refine⟨k - 1,au,rfl,i+1,d++ [wv],br',au,by simp [hd],by simp [f1],by simp [f5],by simp [f6],by simp [f13],by simp [f14],by simp,hS.put (Af _) _,hnx,?_,?_,hbr',?_⟩
   ·simp only;rw[dq,if_pos rfl];simp
   ·exact cK.append.2 ⟨hsd,fun z hz=>by simp at hz;omega⟩
   ·rw[etk,emk,iO,hd,Cy];exact aNn hinv heq trivial
  ·have hi:i=l.length:=by
    have:¬i<l.length:=by simpa using h
    omega
   have hi':=hi.symm;subst hi;have hout:=mF (n:=l.length) (o':=false) (cap:=l.length) hblk hnx (by simp [hd]) (Af _);simp at hout;refine bK ?_;simp [h5];refine aL ?_;simp;refine aF (qR h_trim hout hsd au) ?_;rintro v S1 ⟨hN,rfl⟩;refine aK ?_;simp;refine⟨?_,hS⟩;have e:val l - val m=val d:=by
    rw[Fk,Ay hml] at hinv;have h1:=iA hsd;rw[hd] at h1;have:br=0:=by
     rcases An br with h | h
     ·exact h
     ·have:1 * B ^ l.length<=br * B ^ l.length:=Ar _ h;omega
    subst this;omega
   rw[e];exact hN
 ·simp [dq,jF]
theorem jJ(t size bytes:Nat)(s x:cP)(call:dR)(F:Fr)(S:St):xN (.app t size bytes s x) call F S=iW bytes size (s.val F) (x.val F) S:=rfl
theorem lI{t:Nat}{z:AV}{x:cP}{F:Fr}{id:Nat}{k:IntKind}{n:Int}(hx:x.val F= .int k n):tA (.cm t 1 1 [z] [(0,x)]) F id=some (.sl id 0 1 1 false,.cells [.int k n] false 0):=by
 show(aU (eQ (repeatL [z] 1) [(0 * 1,1,x.val F)]) fun cs=>some (AV.sl id 0 1 1 false,AB.cells cs false 0))=_;rw[hx];rfl
theorem aPO{t s bytes:Nat}{z:bo}{l c:cP}{F:Fr}{id n:Nat}(hl:dS (l.val F)=some 0)(hc:dS (c.val F)=some n)(h1:n<=room)(h2:bytes * n<=room):
  tA (.df t s bytes z l c) F id=some (.sl id 0 0 n false,.cells (repeatL z n) false 0):=by
 show(aU (dS (l.val F)) fun l=>aU (dS (c.val F)) fun c=>bO (Nat.ble l c) (bO (Nat.ble c room) (bO (Nat.ble (bytes * c) room) (some (AV.sl id 0 l c false,AB.cells (repeatL z c) false 0)) none) none) none)=_;rw[hl,aH,hc,aH,Ah (Dt n),Ah h1,Ah h2];rfl
attribute [simp] jJ
theorem aQT{l:bt}{i w:Nat}(hi:i<l.length):put (cC l) i [AV.int .u32 ((w:Nat):Int)]=some (cC (l.set i w)):=by
 rw[put_eq,if_pos (by simp [jZ];omega)];congr 1;unfold cC;rw[<-List.map_take,<-List.map_drop,Ez,if_pos hi];simp
theorem aLa{S:St}{b t n cap w:Nat}{l:bt}{bytes:Nat}(hb:S.h.get b=some (.cells (cC l) false 0))(ht:S.h.get t=some (.cells [.int .u32 ((w:Nat):Int)] false 0))(hn:n<l.length)(hc:n+1<=cap):
  iW bytes 1 (.sl b 0 n cap false) (.sl t 0 1 1 false) S=some (.sl b 0 (n+1) cap false,⟨S.h.set b (some (.cells (cC (l.set n w)) false 0)),S.nx⟩):=by
 have e1:eU (.sl t 0 1 1 false) S.h 1 1=some [.int .u32 ((w:Nat):Int)]:=by
  show aU (cA S.h t) (fun cs=>cut cs 0 (1 * 1))=_;unfold cA;rw[ht];rfl
 show(aU (some 1) fun k=>aU (eU (.sl t 0 1 1 false) S.h 1 k) fun new=>xG (.sl b 0 n cap false) bytes 1 k new S)=_;rw[aH,e1,aH];show pT bytes 1 b 0 n cap false 1 [.int .u32 ((w:Nat):Int)] S=_;unfold pT;rw[Ah hc,aN];have e2:Nat.beq 1 0=false:=rfl;rw[e2,aR];unfold mU;rw[hb,aH];simp only[rJ,Ao,Bt,aQT hn,aH]
theorem aDJ{S:St}{b cap:Nat}{d e:bt}{o o':Bool}{sz:Nat}(h:S.h.get b=some (.cells (cC (d++e)) o sz))(hb:b<S.nx)(hc:d.length<=cap):cO S (.sl b 0 d.length cap o') d:=by
 refine .inr ⟨b,0,cap,o',cC (d++e),by simp,by simpa using hc,hb,by simp [cA,h,dN],fun i x hx=>?_⟩;rw[Ao];rw[Bz,Ax] at hx;obtain⟨y,hy,rfl⟩:=hx;have hi:=(Ai.1 hy).1;unfold cC;rw[Bz,Ap hi,hy];rfl
theorem xR{d:bt}(hs:cK d)(h:d= []\/B ^ (d.length - 1)<=val d):oK d:=by
 refine⟨hs,fun e=>?_⟩;rcases h with h | h
 ·subst h;simp at e
 ·have hne:d≠ []:=by intro h;subst h;simp at e
  obtain⟨m',x,rfl⟩:∃m' x,d=m'++ [x]:=⟨d.dropLast,d.getLast hne,(Gb hne).symm⟩;simp at e;subst e;have:=iA (cK.append.1 hs).1;rw[iO] at h;simp at h;omega
theorem aNy{p q r x y w c c' b:Nat}(hinv:r+c * b=p+q)(hw:w+c' * B=x+y+c):(r+b * w)+c' * (b * B)=(p+b * x)+(q+b * y):=by
 have h1:b * (w+c' * B)=b * (x+y+c):=by rw[hw]
 rw[Cn,Cn,Cn] at h1;have h2:b * (c' * B)=c' * (b * B):=by rw[<-Bl,Bi b c',Bl]
 have h3:b * c=c * b:=Bi _ _;omega
def aTE(S:St)(a b:AV)(l m:bt)(k:Nat)(A:bN)(S':St):Prop:=
 A.inr=false/\∃ (i:Nat) (d:bt) (c:Nat),i+k=l.length/\d.length=i/\aB 1 A.F=b/\aB 5 A.F= .sl S.nx 0 i (l.length+1) false/\aB 6 A.F= .int .u32 (c:Int)/\aB 21 A.F=a/\
  aB 22 A.F= .int .i64 (l.length:Int)/\aB 23 A.F= .int .i64 (i:Int)/\Same S S'/\S.nx<S'.nx/\S'.h.get S.nx=some (.cells (cC (d++List.replicate (l.length+1 - i) 0)) false 0)/\cK d/\c<=1/\
  val d+c * B ^ i=val (l.take i)+val (m.take i)
noncomputable def aK5:AC:=
qk4
theorem aHW{S:St}{a b:AV}{l m:bt}{F:Fr}(ha:cO S a l)(hb:cO S b m)(hl:oK l)(hm:oK m)(hml:m.length<=l.length)(hlen:l.length<=100000)(h0:aB 0 F=a)(h1:aB 1 F=b):
  nD fns aK5 ⟨F,false⟩ S (aRh [.t 4] fun r S'=>dG S' r (val l+val m)/\Same S S'):=by
 have hr1:l.length+1<=room:=by unfold room;omega
 have hr2:4 * (l.length+1)<=room:=by unfold room;omega
 have w0:IntKind.i64.wrap ((l.length:Int)+1)=((l.length+1:Nat):Int):=by rw[wrap_i64 au au];omega
 have hnat:dS (.int .i64 ((l.length:Int)+1))=some (l.length+1):=rfl;unfold aK5;refine bK ?_;simp [h0,ha.len,w0,hnat,aPO (n:=l.length+1),hr1,hr2];refine bK ?_;simp;refine fA ?_;simp [h0,ha.len];refine aQ (bX (aTE S a b l m) ?_ l.length _ _ ⟨rfl,0,[],0,by simp,rfl,by simp [h1],by simp,by simp,by simp,by simp,by simp,Same.alloc S _,by simp,?_,cK.nil,by simp,by simp [dV]⟩)
 ·rintro k ⟨F,inr⟩ S' ⟨q0,i,d,c,hk,hd,q1,q5,q6,q21,q22,q23,hS,hnx,hblk,hsd,hcar,hinv⟩;simp only at q0 q1 q5 q6 q21 q22 q23;subst q0;have ha':=ha.same hS;have hb':=hb.same hS;refine bK ?_;simp [q22,q23];refine aE (jG (t:=decide (i<l.length)) (by simp) (fun h=>aJ ?_) (fun h=>bS ?_))
  ·have hi:i<l.length:=by simpa using h
   have hx:l[i]?.getD 0<B:=by
    have:=hl.1.get (Ad hi);simpa [hi] using this
   have hy:m[i]?.getD 0<B:=by
    by_cases h:i<m.length
    ·have:=hm.1.get (Ad h);simpa [h] using this
    ·simp [show m.length<=i by omega,B]
   have hld:=ha'.ld hi;rw[Ae] at hld;have hyld:∀h:i<m.length,dJ (nQ b i) false 1 S'.h=some (.int .u32 ((m[i]?.getD 0:Nat):Int)):=fun h=>by
    have:=hb'.ld h
    rwa [Ae] at this
   have hyz:¬i<m.length->m[i]?.getD 0=0:=fun h=>by simp [show m.length<=i by omega]
   have etk:val (l.take (i+1))=val (l.take i)+B ^ i * (l[i]?.getD 0):=by rw[gJ,Ae]
   have emk:val (m.take (i+1))=val (m.take i)+B ^ i * (m[i]?.getD 0):=by rw[gJ,Ae]
   generalize l[i]?.getD 0=xv at hx hld etk;generalize m[i]?.getD 0=yv at hy hyld hyz emk;have hB:B=1000000000:=rfl;have w1:IntKind.u32.wrap ((xv:Int)+c)=((xv+c:Nat):Int):=by rw[wrap_u32 au au];omega
   have w2:IntKind.u32.wrap ((xv:Int)+c+yv)=((xv+c+yv:Nat):Int):=by rw[wrap_u32 au au];omega
   refine aE (aQ (aE (aM ?_)));simp [q21,q23,ha'.cq hi,hld];refine bK ?_;simp [q6,w1];refine aE (bG (Q:=fun o A' S''=>o= .normal/\S''=S'/\A'.inr=false/\aB 1 A'.F=b/\aB 5 A'.F= .sl S.nx 0 i (l.length+1) false/\aB 9 A'.F= .int .u32 ((xv+c+yv:Nat):Int)/\aB 21 A'.F=a/\aB 22 A'.F= .int .i64 (l.length:Int)/\aB 23 A'.F= .int .i64 (i:Int)) ?_ ?_)
   ·refine bK ?_;simp [q1,hb'.len];refine jG (t:=decide (i<m.length)) (by simp) (fun h=>?_) (fun h=>aJ ?_)
    ·have him:i<m.length:=by simpa using h
     refine aM ?_;simp [q1,hb'.cq him,hyld him,w2,q5,q21,q22,q23]
    ·have him:¬i<m.length:=by simpa using h
     have:=hyz him;subst this;simp [q1,q5,q21,q22,q23]
   rintro o ⟨F2,inr2⟩ S'' ⟨rfl,rfl,rfl,g1,g5,g9,g21,g22,g23⟩;simp only at g1 g5 g9 g21 g22 g23;simp;refine bK ?_;simp;refine aE (bG (Q:=fun o A' S2=>o= .normal/\S2=S''/\A'.inr=false/\aB 1 A'.F=b/\aB 5 A'.F= .sl S.nx 0 i (l.length+1) false/\aB 21 A'.F=a/\aB 22 A'.F= .int .i64 (l.length:Int)/\aB 23 A'.F= .int .i64 (i:Int)/\
    ∃c' wv:Nat,aB 6 A'.F= .int .u32 (c':Int)/\aB 9 A'.F= .int .u32 (wv:Int)/\c'<=1/\wv<B/\wv+c' * B=xv+yv+c) ?_ ?_)
   ·refine bK ?_;simp [g9];refine jG (t:=decide ((1000000000:Int)<=(xv:Int)+c+yv)) (by simp) (fun h=>?_) (fun h=>aJ ?_)
    ·have hge:(1000000000:Int)<=(xv:Int)+c+yv:=by simpa using h
     have w5:IntKind.u32.wrap ((xv:Int)+c+yv - 1000000000)=((xv+c+yv - B:Nat):Int):=by rw[wrap_u32 au au];omega
     refine bK ?_;simp [g9,w5];refine aM ?_;simp [g1,g5,g21,g22,g23];exact⟨1,rfl,xv+c+yv - B,rfl,au,au,au⟩
    ·have hge:¬ (1000000000:Int)<=(xv:Int)+c+yv:=by simpa using h
     simp [g1,g5,g9,g21,g22,g23];exact⟨0,by simp,xv+c+yv,au,au,au,au⟩
   rintro o ⟨F3,inr3⟩ S2 ⟨rfl,rfl,rfl,f1,f5,f21,f22,f23,c',wv,f6,f9,hc',hwv,heq⟩;simp only at f1 f5 f21 f22 f23 f6 f9;simp;refine aM ?_;simp [f5,f9,lI (k:=.u32) (n:=(wv:Int))];have hb3:(S2.h.set S2.nx (some (AB.cells [AV.int .u32 (wv:Int)] false 0))).get S.nx=some (.cells (cC (d++List.replicate (l.length+1 - i) 0)) false 0):=by rw[dq,if_neg au];exact hblk
   have ht3:(S2.h.set S2.nx (some (AB.cells [AV.int .u32 (wv:Int)] false 0))).get S2.nx=some (.cells [AV.int .u32 (wv:Int)] false 0):=by rw[dq,if_pos rfl]
   have happ:=aLa (S:=⟨S2.h.set S2.nx (some (AB.cells [AV.int .u32 (wv:Int)] false 0)),S2.nx+1⟩) (bytes:=4) (cap:=l.length+1) (n:=i) hb3 ht3 (by simp [hd];omega) au;have hset:(d++List.replicate (l.length+1 - i) 0).set i wv=d++ [wv]++List.replicate (l.length+1 - (i+1)) 0:=by rw[<-hd];exact qQ au
   rw[hset] at happ;refine fK (fun call=>by simp [f5];exact happ) ?_;simp;refine aM ?_;have w7:=dk i
   simp [f23,w7];have hS3:Same S ⟨S2.h.set S2.nx (some (AB.cells [AV.int .u32 (wv:Int)] false 0)),S2.nx+1⟩:=hS.trans (Same.alloc S2 _);refine⟨k - 1,au,rfl,i+1,d++ [wv],c',au,by simp [hd],by simp [f1],by simp,by simp [f6],by simp [f21],by simp [f22],by simp,hS3.put (Af _) _,by simp;omega,?_,?_,hc',?_⟩
   ·simp only;rw[dq,if_pos rfl];simp
   ·exact cK.append.2 ⟨hsd,fun z hz=>by simp at hz;omega⟩
   ·rw[etk,emk,iO,hd,Cy];exact aNy hinv heq
  ·have hi:i=l.length:=by
    have:¬i<l.length:=by simpa using h
    omega
   rw[hi,Fk,Ay hml] at hinv;simp;refine aE (bG (Q:=fun o A' S''=>o= .normal/\A'.inr=false/\Same S S''/\∃r,aB 5 A'.F=r/\dG S'' r (val l+val m)) ?_ ?_)
   ·refine bK ?_;simp [q6];refine jG (t:=decide (0<c)) (by simp) (fun h=>?_) (fun h=>aJ ?_)
    ·have hc1:c=1:=by
      have:0<c:=by simpa using h
      omega
     subst hc1;refine aM ?_;simp [q5,q6,lI (k:=.u32) (n:=1)];have hb3:(S'.h.set S'.nx (some (AB.cells [AV.int .u32 1] false 0))).get S.nx=some (.cells (cC (d++List.replicate (l.length+1 - i) 0)) false 0):=by rw[dq,if_neg au];exact hblk
     have ht3:(S'.h.set S'.nx (some (AB.cells [AV.int .u32 1] false 0))).get S'.nx=some (.cells [AV.int .u32 ((1:Nat):Int)] false 0):=by rw[dq,if_pos rfl];rfl
     have happ:=aLa (S:=⟨S'.h.set S'.nx (some (AB.cells [AV.int .u32 1] false 0)),S'.nx+1⟩) (bytes:=4) (cap:=l.length+1) (n:=i) hb3 ht3 (by simp [hd];omega) au;have hset:(d++List.replicate (l.length+1 - i) 0).set i 1=d++ [1]++List.replicate (l.length+1 - (i+1)) 0:=by rw[<-hd];exact qQ au
     rw[hset] at happ;refine fK (fun call=>by simp [q5];exact happ) ?_;have hS3:Same S ⟨S'.h.set S'.nx (some (AB.cells [AV.int .u32 1] false 0)),S'.nx+1⟩:=hS.trans (Same.alloc S' _);simp;refine⟨hS3.put (Af _) _,d++ [1],?_,?_,?_⟩
     ·have:=aDJ (S:=⟨(S'.h.set S'.nx (some (AB.cells [AV.int .u32 1] false 0))).set S.nx (some (AB.cells (cC (d++ [1]++List.replicate (l.length+1 - (i+1)) 0)) false 0)),S'.nx+1⟩) (b:=S.nx) (cap:=l.length+1) (d:=d++ [1]) (e:=List.replicate (l.length+1 - (i+1)) 0) (o:=false) (o':=false) (sz:=0) fh (by simp;omega) (by simp [hd];omega);simpa [hd] using this
     ·exact⟨cK.append.2 ⟨hsd,fun z hz=>by simp at hz;subst hz;decide⟩,by simp⟩
     ·rw[iO,hd,hi];omega
    ·have hc0:c=0:=by
      have:¬0<c:=by simpa using h
      omega
     subst hc0;simp [q5];refine⟨hS,d,?_,?_,au⟩
     ·have:=aDJ (S:=S') (cap:=l.length+1) (o':=false) hblk hnx au;rw[hd] at this;exact this
     ·refine xR hsd ?_;by_cases hl0:l= []
      ·left;subst hl0;simp at hi;exact Cf.1 au
      ·right;have:=aHS hl hl0;rw[hd,hi];omega
   rintro o ⟨F2,inr2⟩ S'' ⟨rfl,rfl,hS2,r,g5,hN⟩;simp only at g5;simp;refine bK ?_;simp [g5];refine aK ?_;simp;exact⟨hN,hS2⟩
 ·simp [dq,jF]
theorem aOy{S:St}{a b:AV}{x y:Nat}(hfn:fns.get 152=some a152)(ha:dG S a x)(hb:dG S b y)(hx:Fits x)(hy:Fits y):
  eT fns (.fn 152 [] []) [a,b] S fun r S'=>dG S' r (x+y)/\Same S S':=by
 obtain⟨l,ha,hl,rfl⟩:=ha;obtain⟨m,hb,hm,rfl⟩:=hb;have hlen:=Fits.len hl hx;have hlen':=Fits.len hm hy;refine bL hfn (by simp) ?_;simp;refine bK ?_;simp;refine fA ?_;simp [ha.len,hb.len];refine jG (t:=decide (l.length<m.length)) (by simp) (fun h=>aM ?_) (fun h=>aJ ?_)
 ·have hlt:l.length<m.length:=by simpa using h
  simp;rw[Fv];exact aHW hb ha hm hl au hlen' (by simp) (by simp)
 ·have hlt:¬l.length<m.length:=by simpa using h
  simp;exact aHW ha hb hl hm au hlen (by simp) (by simp)
theorem aA7{S:St}{b p w:Nat}{l:bt}{o:Bool}{sz:Nat}(h:S.h.get b=some (.cells (cC l) o sz))(hp:p<l.length):
  oT (.ptr b p) 1 [.int .u32 ((w:Nat):Int)] S=some (.undef,⟨S.h.set b (some (.cells (cC (l.set p w)) o sz)),S.nx⟩):=by
 simp only[oT,mU,h,aH,rJ,aQT hp];rfl
theorem aCC{S:St}{b p:Nat}{l:bt}{o:Bool}{sz:Nat}(h:S.h.get b=some (.cells (cC l) o sz))(hp:p<l.length):dJ (.ptr b p) false 1 S.h=some (.int .u32 ((l[p]?.getD 0:Nat):Int)):=by
 simp only[dJ,iQ,aR,jQ,cA,h,aH,dN,jY,cC,Bz];rw[Ad hp];rfl
theorem aOD{b off n cap i:Nat}{F:Fr}{x:cP}(hx:dS (x.val F)=some i)(h1:i<=n)(h2:n<=cap)(h3:i<cap):oS (.slice 1) (.sl b off n cap false) (some x) none none F=some (.sl b (off+i * 1) (n - i) (cap - i) false):=by
 have e1:Nat.ble cap cap=true:=Ah (Af _);have e2:Nat.ble n cap=true:=Ah h2;have e3:Nat.ble i n=true:=Ah h1;have e4:Nat.beq cap i=false:=by rw[Ca];intro h;rw[Az] at h;omega
 simp only[oS,aDR,jP,iU,aH,hx,e1,e2,e3,aN,e4,aR]
theorem nO(e:qM){t d:Nat}(ht:t<=18446744073709551615)(hd:0<d):kA .quo e (.int .u64 ((t:Nat):Int)) (.int .u64 ((d:Nat):Int))=some (.int .u64 ((t / d:Nat):Int)):=by
 show cU .quo .u64 (Int.ofNat t) .u64 (Int.ofNat d)=_;unfold cU;rw[show eX .quo=false from rfl,aR,fR,aN];show bO (Nat.beq d 0) none (some (AV.int .u64 (nat .u64 (t / d))))=_;have h0:Nat.beq d 0=false:=by rw[Ca];intro h;rw[Az] at h;omega
 rw[h0,aR,nat_eq];congr 2;exact wrap_u64 (Gj _) (by have:=Di t d;show((t / d:Nat):Int)<=_;omega)
theorem xJ(e:qM){t d:Nat}(hd:0<d):kA .rem e (.int .u64 ((t:Nat):Int)) (.int .u64 ((d:Nat):Int))=some (.int .u64 ((t % d:Nat):Int)):=by
 show cU .rem .u64 (Int.ofNat t) .u64 (Int.ofNat d)=_;unfold cU;rw[show eX .rem=false from rfl,aR,fR,aN];show bO (Nat.beq d 0) none (some (AV.int .u64 (.ofNat (t % d))))=_;have h0:Nat.beq d 0=false:=by rw[Ca];intro h;rw[Az] at h;omega
 rw[h0,aR];rfl
theorem aNc(e:qM){t:Nat}(ht:t<=18446744073709551615):kA .quo e (.int .u64 ((t:Nat):Int)) (.int .u64 1000000000)=some (.int .u64 ((t / B:Nat):Int)):=nO e ht jB
theorem aRS(e:qM)(t:Nat):kA .rem e (.int .u64 ((t:Nat):Int)) (.int .u64 1000000000)=some (.int .u64 ((t % B:Nat):Int)):=xJ e jB
theorem aNk{vl vo vm c bi bj x y o w k k':Nat}(hinv:vl+k * c=vo+bi * x * vm)(hc:c=bi * bj)(ht:x * y+o+k=w+k' * B):(vl+c * w)+k' * (c * B)=(vo+c * o)+bi * x * (vm+bj * y):=by
 have h1:c * (x * y+o+k)=c * (w+k' * B):=by rw[ht]
 rw[Cn,Cn,Cn] at h1;have h2:c * (k' * B)=k' * (c * B):=by rw[<-Bl,Bi c k',Bl]
 have h3:bi * x * (vm+bj * y)=bi * x * vm+c * (x * y):=by
  rw[Cn,hc];congr 1;rw[Bl,Bl,<-Bl x bj y,Bi x bj,Bl]
 have h4:c * k=k * c:=Bi _ _;rw[h3];omega
theorem aN0{x y o k:Nat}(hx:x<B)(hy:y<B)(ho:o<B)(hk:k<B):(x * y+o+k) / B<B/\x * y<=999999998000000001:=by
 have h1:x * y<=999999999 * 999999999:=Dw (by unfold B at hx;omega) (by unfold B at hy;omega);have hB:B=1000000000:=rfl;refine⟨?_,au⟩;rw[Ed jB,hB];omega
theorem aNv:((B:Nat):Int)=1000000000:=by simp [B]
def aTs(S:St)(a b:AV)(l m:bt)(k:Nat)(A:bN)(S':St):Prop:=
 A.inr=false/\∃ (i:Nat) (d:bt),i+k=l.length/\d.length=i+m.length/\aB 1 A.F=b/\aB 5 A.F= .sl S.nx 0 (l.length+m.length) (l.length+m.length) false/\aB 27 A.F=a/\aB 28 A.F= .int .i64 (l.length:Int)/\
  aB 29 A.F= .int .i64 (i:Int)/\Same S S'/\S.nx<S'.nx/\S'.h.get S.nx=some (.cells (cC (d++List.replicate (l.length - i) 0)) false 0)/\cK d/\val d=val (l.take i) * val m
def aTe(S:St)(a b:AV)(l m O:bt)(i x k:Nat)(A:bN)(S':St):Prop:=
 A.inr=false/\∃ (j:Nat) (L:bt) (c:Nat),j+k=m.length/\L.length=l.length+m.length/\aB 1 A.F=b/\aB 5 A.F= .sl S.nx 0 (l.length+m.length) (l.length+m.length) false/\aB 7 A.F= .int .u32 (x:Int)/\
  aB 8 A.F= .sl S.nx i (l.length+m.length - i) (l.length+m.length - i) false/\aB 9 A.F= .int .u64 (c:Int)/\aB 27 A.F=a/\aB 28 A.F= .int .i64 (l.length:Int)/\aB 29 A.F= .int .i64 (i:Int)/\
  aB 37 A.F=b/\aB 38 A.F= .int .i64 (m.length:Int)/\aB 39 A.F= .int .i64 (j:Int)/\Same S S'/\S.nx<S'.nx/\S'.h.get S.nx=some (.cells (cC L) false 0)/\cK L/\c<B/\L.drop (i+j)=O.drop (i+j)/\
  val (L.take (i+j))+c * B ^ (i+j)=val (O.take (i+j))+B ^ i * x * val (m.take j)
theorem uA{S:St}{a b:AV}{x y:Nat}(h_trim:fns.get 139=some a139)(hfn:fns.get 143=some a143)(ha:dG S a x)(hb:dG S b y)(hx:Fits x)(hy:Fits y):
  eT fns (.fn 143 [] []) [a,b] S fun r S'=>dG S' r (x * y)/\Same S S':=by
 obtain⟨l,ha,hl,rfl⟩:=ha;obtain⟨m,hb,hm,rfl⟩:=hb;have hlen:=Fits.len hl hx;have hlen':=Fits.len hm hy;have hr1:l.length+m.length<=room:=by unfold room;omega
 have hr2:4 * (l.length+m.length)<=room:=by unfold room;omega
 have w0:IntKind.i64.wrap ((l.length:Int)+(m.length:Int))=((l.length+m.length:Nat):Int):=by rw[wrap_i64 au au];omega
 have hnat:dS (.int .i64 ((l.length:Int)+(m.length:Int)))=some (l.length+m.length):=rfl;refine bL hfn (by simp) ?_;simp;refine bK ?_;simp;refine fA ?_;by_cases hl0:l= []
 ·subst hl0;simp [ha.len];refine aP (by simp) ?_;refine bK ?_;simp;refine aK ?_;simp [dV];exact⟨⟨[],.inl ⟨rfl,.inl rfl⟩,uE,rfl⟩,Same.refl S⟩
 by_cases hm0:m= []
 ·subst hm0;have hlp:l.length≠0:=fun h=>hl0 (Cf.1 h);simp [ha.len,hb.len,hl0];refine aP (by simp) ?_;refine bK ?_;simp;refine aK ?_;simp [dV];exact⟨⟨[],.inl ⟨rfl,.inl rfl⟩,uE,rfl⟩,Same.refl S⟩
 have hlp:0<l.length:=Ep.2 hl0;have hmp:0<m.length:=Ep.2 hm0;simp [ha.len,hb.len,hl0,hm0];refine aO (by simp) (aJ ?_);simp;refine bK ?_;simp [ha.len,hb.len,w0,hnat,oJ (n:=l.length+m.length),hr1,hr2];refine fA ?_;simp [ha.len];refine aQ (bX (aTs S a b l m) ?_ l.length _ _ ⟨rfl,0,List.replicate m.length 0,by simp,by simp,by simp,by simp,by simp,by simp,by simp,Same.alloc S _,by simp,?_,fun z hz=>by simp at hz;rw[hz.2];decide,?_⟩)
 ·rintro k ⟨F,inr⟩ S' ⟨q0,i,d,hk,hd,q1,q5,q27,q28,q29,hS,hnx,hblk,hsd,hinv⟩;simp only at q0 q1 q5 q27 q28 q29;subst q0;have ha':=ha.same hS;have hb':=hb.same hS;refine bK ?_;simp [q28,q29];refine aE (jG (t:=decide (i<l.length)) (by simp) (fun h=>aJ ?_) (fun h=>bS ?_))
  ·have hi:i<l.length:=by simpa using h
   have hld:=ha'.ld hi;rw[Ae] at hld;have hx:l[i]?.getD 0<B:=by
    have:=hl.1.get (Ad hi);simpa [hi] using this
   have etk:val (l.take (i+1))=val (l.take i)+B ^ i * (l[i]?.getD 0):=by rw[gJ,Ae]
   generalize l[i]?.getD 0=xv at hx hld etk;refine aE (aQ (aE (aM ?_)));simp [q27,q29,ha'.cq hi,hld];refine bK ?_;simp [q5,aOD (i:=i),show i<=l.length+m.length by omega,show i<l.length+m.length by omega];refine bK ?_;simp;refine fA ?_;simp [q1,hb'.len];have hOlen:(d++List.replicate (l.length - i) 0).length=l.length+m.length:=by simp [hd];omega
   have hOs:cK (d++List.replicate (l.length - i) 0):=cK.append.2 ⟨hsd,fun z hz=>by simp at hz;rw[hz.2];decide⟩;have hOt:(d++List.replicate (l.length - i) 0).take (i+m.length)=d:=by rw[<-hd,List.take_left' rfl]
   have hOd:(d++List.replicate (l.length - i) 0).drop (i+m.length)=List.replicate (l.length - i) 0:=by rw[<-hd,List.drop_left' rfl]
   generalize d++List.replicate (l.length - i) 0=O at hblk hOlen hOs hOt hOd;refine bG (Q:=fun o A' S''=>o= .normal/\aTe S a b l m O i xv 0 A' S'') ?_ ?_
   ·refine aQ (bX (aTe S a b l m O i xv) ?_ m.length _ _ ⟨rfl,0,O,0,by simp,hOlen,by simp [q1],by simp [q5],by simp,by simp,by simp,by simp [q27],by simp [q28],by simp [q29],by simp,by simp,by simp,hS,hnx,hblk,hOs,by decide,rfl,by simp [dV]⟩);rintro k' ⟨F,inr⟩ S' ⟨p0,j,L,c,hjk,hL,p1,p5,p7,p8,p9,p27,p28,p29,p37,p38,p39,hS,hnx,hblk,hLs,hc,hLd,hinv2⟩;simp only at p0 p1 p5 p7 p8 p9 p27 p28 p29 p37 p38 p39;subst p0;have hb':=hb.same hS;refine bK ?_;simp [p38,p39];refine aE (jG (t:=decide (j<m.length)) (by simp) (fun h=>aJ ?_) (fun h=>bS ?_))
    ·have hj:j<m.length:=by simpa using h
     have hyld:=hb'.ld hj;rw[Ae] at hyld;have hy:m[j]?.getD 0<B:=by
      have:=hm.1.get (Ad hj);simpa [hj] using this
     have emk:val (m.take (j+1))=val (m.take j)+B ^ j * (m[j]?.getD 0):=by rw[gJ,Ae]
     generalize m[j]?.getD 0=yv at hy hyld emk;have hp:i+j<L.length:=by omega
     have hrld:=aCC hblk hp;have ho:L[i+j]?.getD 0<B:=by
      have:=hLs.get (Ad hp);simpa [hp] using this
     have hLO:L[i+j]?.getD 0=O[i+j]?.getD 0:=by
      have e1:(L.drop (i+j))[0]? =(O.drop (i+j))[0]? :=by rw[hLd]
      simpa using Hn (·.getD 0) e1
     have eOk:val (O.take (i+j+1))=val (O.take (i+j))+B ^ (i+j) * (O[i+j]?.getD 0):=by rw[gJ,Ae]
     rw[<-hLO] at eOk;generalize L[i+j]?.getD 0=ov at ho hrld eOk;have⟨hc2,hxy⟩:=aN0 hx hy ho hc;have hB:B=1000000000:=rfl;have w1:IntKind.u64.wrap (xv:Int)=xv:=wrap_u64 au au;have w2:IntKind.u64.wrap (yv:Int)=yv:=wrap_u64 au au;have w3:IntKind.u64.wrap ((xv:Int) * yv)=((xv * yv:Nat):Int):=by rw[wrap_u64 (by rw[<-Bk];omega) (by rw[<-Bk];omega)];simp
     have w4:IntKind.u64.wrap (ov:Int)=ov:=wrap_u64 au au;have w5:IntKind.u64.wrap (((xv * yv:Nat):Int)+ov)=((xv * yv+ov:Nat):Int):=by rw[wrap_u64 au au];omega
     have w6:IntKind.u64.wrap (((xv * yv+ov:Nat):Int)+c)=((xv * yv+ov+c:Nat):Int):=by rw[wrap_u64 au au];omega
     have hiad:dT (.slice 1) (.sl S.nx i (l.length+m.length - i) (l.length+m.length - i) false) j=some (.ptr S.nx (i+j)):=by rw[lY au,Bt]
     refine aE (aQ (aE (aM ?_)));simp [p37,p39,hb'.cq hj,hyld];refine bK ?_;simp only[jS,fS,cI,jR,iF,iH,gH,mQ,fB,mX,bF,iG,mE,lH,mL,aW,aH,rE,Cq,Bx,reduceCtorEq,dL,eH,eF,p7,p8,p9,w1,w2,w3,w4,w5,w6,hiad,hrld];have htle:xv * yv+ov+c<=18446744073709551615:=by omega
     generalize hteq:xv * yv+ov+c=t at hc2 htle;have hquo:=aNc (.p .int) htle;have hdm:t / B * B+t % B=t:=by rw[Bi];exact El t B
     have hmod:t % B<1000000000:=Dj t jB;generalize t / B=q at hc2 hdm hquo;generalize t % B=r at hdm hmod;have hcast:((q * B:Nat):Int)=(q:Int) * 1000000000:=by rw[Bk,aNv]
     generalize hsq:q * B=sq at hdm hcast;have w7:IntKind.u64.wrap ((q:Int) * 1000000000)=(sq:Int):=by rw[<-hcast];exact wrap_u64 au au
     have w8:IntKind.u64.wrap ((t:Int) - (sq:Int))=(r:Int):=by rw[wrap_u64 au au];omega
     have w9:IntKind.u32.wrap (r:Int)=(r:Int):=wrap_u32 au au;have hrB:r<B:=hmod;refine bK ?_;simp only[jS,fS,cI,jR,iF,iH,gH,mQ,fB,mX,bF,iG,mE,lH,mL,aW,aH,rE,Cq,Bx,reduceCtorEq,dL,eH,eF,hquo];refine aM ?_;simp only[jS,fS,cI,jR,iF,iH,gH,mQ,fB,mX,bF,iG,mE,lH,mL,aW,aH,rE,Cq,Bx,reduceCtorEq,dL,eH,eF,p8,w7,w8,w9,hiad];have hst:=aA7 (w:=r) hblk hp;refine fK (fun call=>by simp only[dW,fB,bF,rE,Cq,Bx,cN,aH];exact hst) ?_;simp only[jS,fS,cI,jR,iF,iH,gH,mQ,fB,mX,bF,iG,mE,lH,mL,aW,aH,rE,Cq,Bx,reduceCtorEq,dL,eH,eF,fQ];refine aM ?_;have w10:=dk j
     simp only[jS,fS,cI,jR,iF,iH,gH,mQ,fB,mX,bF,iG,mE,lH,mL,aW,aH,rE,Cq,Bx,reduceCtorEq,dL,eH,eF,p39,w10];have hLset:∀q,i+j<q->(L.set (i+j) r).drop q=L.drop q:=fun q hq=>by rw[List.drop_set];simp [show ¬q<=i+j by omega]
     have hLtk:(L.set (i+j) r).take (i+j)=L.take (i+j):=by rw[List.take_set,List.set_eq_of_length_le (by simp;omega)]
     refine⟨k' - 1,au,rfl,j+1,L.set (i+j) r,q,au,by simp [hL],by simp [p1],by simp [p5],by simp [p7],by simp [p8],by simp [bF],by simp [p27],by simp [p28],by simp [p29],by simp [p37],by simp [p38],by simp,hS.put (Af _) _,hnx,?_,?_,hc2,?_,?_⟩
     ·simp only;rw[dq,if_pos rfl]
     ·intro z hz;rcases List.mem_or_eq_of_mem_set hz with h | h
      ·exact hLs z h
      ·rw[h];exact hrB
     ·rw[<-Cx,hLset _ au,<-List.drop_drop,hLd,List.drop_drop]
     ·have e1:val ((L.set (i+j) r).take (i+j+1))=val (L.take (i+j))+B ^ (i+j) * r:=by
       rw[gJ,hLtk];simp [hp]
      rw[<-Cx,e1,eOk,emk,Cy];exact aNk hinv2 (Hl B i j) (by rw[hteq,hsq];omega)
    ·have hj:j=m.length:=by
      have:¬j<m.length:=by simpa using h
      omega
     simp;exact⟨rfl,j,L,c,au,hL,by simp [p1],by simp [p5],by simp [p7],by simp [p8],by simp [p9],by simp [p27],by simp [p28],by simp [p29],by simp [p37],by simp [p38],by simp [p39],hS,hnx,hblk,hLs,hc,hLd,hinv2⟩
   rintro o ⟨F2,inr2⟩ S'' ⟨rfl,p0,j,L,c,hjk,hL,p1,p5,p7,p8,p9,p27,p28,p29,p37,p38,p39,hS,hnx,hblk,hLs,hc,hLd,hinv2⟩;simp only at p0 p1 p5 p7 p8 p9 p27 p28 p29 p37 p38 p39;subst p0;have hj:j=m.length:=by omega
   subst hj;have hb':=hb.same hS;have hp:i+m.length<L.length:=by omega
   have hB:B=1000000000:=rfl;have w1:IntKind.u32.wrap (c:Int)=(c:Int):=wrap_u32 au au;have hiad:dT (.slice 1) (.sl S.nx i (l.length+m.length - i) (l.length+m.length - i) false) m.length=some (.ptr S.nx (i+m.length)):=by rw[lY au,Bt]
   have hst:=aA7 (w:=c) hblk hp;have w10:=dk i
   have hLl:(L.take (i+m.length)).length=i+m.length:=by simp;omega
   have hLsplit:L.set (i+m.length) c=L.take (i+m.length)++ [c]++List.replicate (l.length - (i+1)) 0:=by
    have e1:L=L.take (i+m.length)++List.replicate (l.length - i) 0:=by rw[<-hOd,<-hLd,Dl]
    have e2:l.length - i=l.length+m.length - (L.take (i+m.length)).length:=by rw[hLl];omega
    have e3:l.length - (i+1)=l.length+m.length - ((L.take (i+m.length)).length+1):=by rw[hLl];omega
    have e4:=qQ (d:=L.take (i+m.length)) (n:=l.length+m.length) (x:=c) (by rw[hLl];omega);rw[<-e2,<-e3,<-e1,hLl] at e4;exact e4
   rw[hLsplit] at hst;show nD fns _ _ _ _;refine aM ?_;simp only[jS,fS,cI,jR,iF,iH,gH,mQ,qO,fB,mX,bF,iG,mE,lH,mL,aW,aH,rE,Cq,Bx,reduceCtorEq,dL,eH,eF,p1,p8,p9,hb'.len,w1,hiad];refine fK (fun call=>by simp only[dW,fB,bF,rE,Cq,Bx,cN,aH];exact hst) ?_;simp only[jS,fS,cI,jR,iF,iH,gH,mQ,qO,fB,mX,bF,iG,mE,lH,mL,aW,aH,rE,Cq,Bx,reduceCtorEq,dL,eH,eF,fQ];refine aM ?_;simp only[jS,fS,cI,jR,iF,iH,gH,mQ,qO,fB,mX,bF,iG,mE,lH,mL,aW,aH,rE,Cq,Bx,reduceCtorEq,dL,eH,eF,p29,w10];refine⟨k - 1,au,rfl,i+1,L.take (i+m.length)++ [c],au,by rw[Aj,hLl];simp;omega,by simp [p1],by simp [p5],by simp [p27],by simp [p28],by simp,hS.put (Af _) _,hnx,?_,?_,?_⟩
   ·simp only;rw[dq,if_pos rfl]
   ·exact cK.append.2 ⟨hLs.take _,fun z hz=>by simp at hz;rw[hz];exact hc⟩
   ·rw[iO,hLl,etk];rw[hOt,hinv,Fk] at hinv2;rw[Ch,Bi (B ^ (i+m.length)) c,hinv2]
  ·have hi:i=l.length:=by
    have:¬i<l.length:=by simpa using h
    omega
   rw[hi,Fk] at hinv;have hout:=mF (n:=l.length+m.length) (o':=false) (cap:=l.length+m.length) hblk hnx (by simp [hd];omega) (Af _);rw[hi] at hout;simp at hout;simp;refine bK ?_;simp [q5];refine aL ?_;simp;refine aF (qR h_trim hout hsd au) ?_;rintro v S1 ⟨hN,rfl⟩;refine aK ?_;simp;exact⟨by rw[<-hinv];exact hN,hS⟩
 ·simp [dq,jF,Fv]
 ·simp [dV];exact aFo fun z hz=>by simp at hz;exact hz.2
theorem xP{S:St}(hfn:fns.get 108=some a108):eT fns (.fn 108 [] []) [] S fun r S'=>dG S' r 1/\Same S S':=by
 refine bL hfn (by simp) ?_;simp;refine bK ?_;simp;refine bK ?_;have he:∀F id,tA (.cm 97 1 1 [AV.int .u32 0] [(0,.c (.int .u32 1))]) F id=some (.sl id 0 1 1 false,.cells [.int .u32 1] false 0):=fun F id=>lI rfl;simp [he];refine aK ?_;simp;refine⟨⟨[1],?_,aHw,qL⟩,Same.alloc S _⟩;exact mF (l:=[1]) (o:=false) (sz:=0) (by simp only;rw[dq,if_pos rfl];rfl) (by simp) rfl (Af _)
theorem aQh{S:St}{v:AV}{l:bt}{bytes:Nat}(h:cO S v l)(h1:l.length<=room)(h2:l.length * bytes<=room):
  ∃r S',iW bytes 1 .ce v S=some (r,S')/\cO S' r l/\Same S S':=by
 rcases h with⟨h0,h⟩ | ⟨b,off,cap,o,cs,rfl,hc,hb,hcs,hel⟩
 ·simp at h0;subst h0;rcases h with rfl | rfl
  ·exact⟨.ce,S,rfl,.inl ⟨rfl,.inl rfl⟩,Same.refl S⟩
  ·exact⟨.ce,S,rfl,.inl ⟨rfl,.inl rfl⟩,Same.refl S⟩
 ·rw[Ce] at hc;by_cases hl:l= []
  ·subst hl;refine⟨.ce,S,?_,.inl ⟨rfl,.inl rfl⟩,Same.refl S⟩;show(aU (some 0) fun n=>aU (eU (.sl b off 0 cap o) S.h 1 n) fun new=>xG .ce bytes 1 n new S)=_;rw[aH];show(aU (aU (cA S.h b) fun cs=>cut cs off (0 * 1)) fun new=>xG .ce bytes 1 0 new S)=_;rw[hcs,aH];have:cut cs off (0 * 1)=some []:=by unfold cut;rw[jC,jM];simp
   rw[this];rfl
  ·have hcut:cut cs off (l.length * 1)=some (cC l):=by
    have hall:∀i,i<l.length->cs[off+i]? =some (.int .u32 ((l[i]?.getD 0:Nat):Int)):=fun i hi=>by
     refine hel i _ ?_;simp [hi]
    unfold cut;rw[jC,jM,Bt];have hlen:off+l.length<=cs.length:=by
     have hp:0<l.length:=Ep.2 hl;have:=hall (l.length - 1) au;have:=(Ai.1 this).1;omega
    rw[if_pos (by simp;omega)];congr 1;apply List.ext_getElem?;intro i;rw[List.getElem?_take];split
    ·rename_i hi;rw[Fi,hall i hi];simp [cC,hi]
    ·rename_i hi
     symm
     rw[Bo (by rw[jZ];omega)]
   refine⟨.sl S.nx 0 l.length l.length true,⟨S.h.set S.nx (some (.cells (cC l) true 1)),S.nx+1⟩,?_,?_,Same.alloc S _⟩
   ·show(aU (some (l.map Int.ofNat).length) fun n=>aU (eU (.sl b off (l.map Int.ofNat).length cap o) S.h 1 n) fun new=>xG .ce bytes 1 n new S)=_;rw[aH,Ce];show(aU (aU (cA S.h b) fun cs=>cut cs off (l.length * 1)) fun new=>pF bytes 1 l.length new S)=_;rw[hcs,aH,hcut,aH];unfold pF;have e0:Nat.beq l.length 0=false:=by rw[Ca];intro h;rw[Az] at h;exact hl (Cf.1 h)
    rw[e0,aR,Ah h1,aN,Ah h2,aN];rfl
   ·exact mF (o:=true) (sz:=1) fh (by simp) rfl (Af _)
theorem aL8{S:St}{v:AV}{l:bt}(hfn:fns.get 101=some a101)(h:cO S v l)(hlen:l.length<=100000):eT fns (.fn 101 [] []) [v] S fun r S'=>cO S' r l/\Same S S':=by
 have⟨r,S',happ,h1,h2⟩:=aQh (bytes:=4) h ax ax;refine bL hfn (by simp) ?_;simp;refine bK ?_;simp;refine bK ?_;simp;refine fK (fun call=>by simp;exact happ) ?_;simp;refine aK ?_;simp;exact⟨h1,h2⟩
theorem oG{S:St}{v:AV}{n:Nat}(hfn:fns.get 101=some a101)(h:dG S v n)(hn:Fits n):eT fns (.fn 101 [] []) [v] S fun r S'=>dG S' r n/\Same S S':=by
 obtain⟨l,h1,h2,rfl⟩:=h;exact aF (aL8 hfn h1 (Fits.len h2 hn)) fun r S' ⟨q1,q2⟩=>⟨⟨l,q1,h2,rfl⟩,q2⟩
theorem aPa{S:St}{b t n w:Nat}{d:bt}{bytes:Nat}(hb:S.h.get b=some (.cells (cC d) true 1))(ht:S.h.get t=some (.cells [.int .u32 ((w:Nat):Int)] false 0))(hn:n=d.length)(h1:n+1<=room)(h2:(n+1) * bytes<=room):
  iW bytes 1 (.sl b 0 n n true) (.sl t 0 1 1 false) S=some (.sl S.nx 0 (n+1) (n+1) true,⟨(S.h.set b none).set S.nx (some (.cells (cC (d++ [w])) true 1)),S.nx+1⟩):=by
 subst hn;have e1:eU (.sl t 0 1 1 false) S.h 1 1=some [.int .u32 ((w:Nat):Int)]:=by
  show aU (cA S.h t) (fun cs=>cut cs 0 (1 * 1))=_;unfold cA;rw[ht];rfl
 show(aU (some 1) fun k=>aU (eU (.sl t 0 1 1 false) S.h 1 k) fun new=>xG (.sl b 0 d.length d.length true) bytes 1 k new S)=_;rw[aH,e1,aH];show pT bytes 1 b 0 d.length d.length true 1 [.int .u32 ((w:Nat):Int)] S=_;unfold pT;have e2:Nat.ble (d.length+1) d.length=false:=by rw[Ca];intro h;have:=Au h;omega
 rw[e2,aR,Ah h1,aN,Ah h2,aN,hb,aH];have e3:cut (cC d) 0 (d.length * 1)=some (cC d):=by
  unfold cut;rw[jC,jM,Dn,Bt,if_pos (by rw[jZ];exact Af _),Ay (by rw[jZ];exact Af _)]
 have e4:Nat.beq (0+d.length * 1) (kL (cC d))=true:=by rw[eR,jZ,Az];omega
 simp only[aAR,e3,aH,aN,Az,e4];have e5:Nat.beq 1 1=true:=rfl;rw[e5,aN,fE];simp [grown,cC]
def aJQ(S0 S:St)(v:AV)(d:bt):Prop:=
 (v= .ce/\d= [])\/∃b,v= .sl b 0 d.length d.length true/\S0.nx<=b/\b<S.nx/\S.h.get b=some (.cells (cC d) true 1)
theorem aJQ.limbs{S0 S:St}{v:AV}{d:bt}(h:aJQ S0 S v d):cO S v d:=by
 rcases h with⟨rfl,rfl⟩ | ⟨b,rfl,_,hb,h⟩
 ·exact .inl ⟨rfl,.inl rfl⟩
 ·exact mF h hb rfl (Af _)
theorem aJQ.app{S0 S:St}{v:AV}{d:bt}{w bytes:Nat}(h:aJQ S0 S v d)(hS:Same S0 S)(h1:d.length+1<=room)(h2:(d.length+1) * bytes<=room):
  ∃v' S',iW bytes 1 v (.sl S.nx 0 1 1 false) ⟨S.h.set S.nx (some (.cells [.int .u32 ((w:Nat):Int)] false 0)),S.nx+1⟩=some (v',S')/\aJQ S0 S' v' (d++ [w])/\Same S0 S':=by
 have ht:(S.h.set S.nx (some (AB.cells [AV.int .u32 ((w:Nat):Int)] false 0))).get S.nx=some (.cells [.int .u32 ((w:Nat):Int)] false 0):=by rw[dq,if_pos rfl]
 have hS1:Same S0 ⟨S.h.set S.nx (some (.cells [.int .u32 ((w:Nat):Int)] false 0)),S.nx+1⟩:=hS.trans (Same.alloc S _);rcases h with⟨rfl,rfl⟩ | ⟨b,rfl,hb0,hb,h⟩
 ·refine⟨.sl (S.nx+1) 0 1 1 true,⟨(S.h.set S.nx (some (.cells [.int .u32 ((w:Nat):Int)] false 0))).set (S.nx+1) (some (.cells [.int .u32 ((w:Nat):Int)] true 1)),S.nx+1+1⟩,?_,.inr ⟨S.nx+1,rfl,aw hS.1,by simp,?_⟩,hS1.trans (Same.alloc _ _)⟩
  ·have e1:eU (.sl S.nx 0 1 1 false) (S.h.set S.nx (some (.cells [.int .u32 ((w:Nat):Int)] false 0))) 1 1=some [.int .u32 ((w:Nat):Int)]:=by
    show aU (cA _ S.nx) (fun cs=>cut cs 0 (1 * 1))=_;unfold cA;rw[ht];rfl
   show(aU (some 1) fun k=>aU (eU (.sl S.nx 0 1 1 false) (S.h.set S.nx (some (.cells [.int .u32 ((w:Nat):Int)] false 0))) 1 k) fun new=>xG .ce bytes 1 k new _)=_;rw[aH,e1,aH];show pF bytes 1 1 _ _=_;unfold pF;have e2:Nat.beq 1 0=false:=rfl;simp at h1 h2;rw[e2,aR,Ah h1,aN,Ah au,aN];rfl
  ·simp only;rw[dq,if_pos rfl];rfl
 ·have hb3:(S.h.set S.nx (some (AB.cells [AV.int .u32 ((w:Nat):Int)] false 0))).get b=some (.cells (cC d) true 1):=by rw[dq,if_neg au];exact h
  have happ:=aPa (S:=⟨S.h.set S.nx (some (.cells [.int .u32 ((w:Nat):Int)] false 0)),S.nx+1⟩) (bytes:=bytes) hb3 ht rfl h1 h2;refine⟨_,_,happ,.inr ⟨S.nx+1,by simp,aw hS.1,by simp,?_⟩,?_⟩
  ·simp only;rw[dq,if_pos rfl]
  ·exact⟨Bb hS.1 (by simp;omega),fun c hc=>by
    simp only;have:=hS.1;rw[dq,if_neg au,dq,if_neg au];exact hS1.2 c hc⟩
theorem uQ{S:St}{n:Nat}(hfn:fns.get 82=some a82)(hn:n<=18446744073709551615):eT fns (.fn 82 [] []) [.int .u64 (n:Int)] S fun r S'=>dG S' r n/\Same S S':=by
 refine bL hfn (by simp) ?_;simp;refine bK ?_;simp;refine bK ?_;simp;refine aE (aQ (bX (fun k A S'=>A.inr=false/\∃ (d:bt) (v:AV),aB 0 A.F= .int .u64 (k:Int)/\k<=n/\aB 3 A.F=v/\aJQ S S' v d/\Same S S'/\cK d/\val d+B ^ d.length * k=n/\(d= []\/B ^ (d.length - 1)<=n)) ?_ n _ _ ⟨rfl,[],.ce,by simp,Af _,by simp,.inl ⟨rfl,rfl⟩,Same.refl S,cK.nil,by simp [dV],.inl rfl⟩));rintro k ⟨F,inr⟩ S' ⟨q0,d,v,p0,hk,p3,hv,hS,hsd,hinv,hlow⟩;simp only at q0 p0 p3;subst q0;refine fA ?_;simp [p0];refine jG (t:=decide (0<k)) (by simp) (fun h=>aJ ?_) (fun h=>bS ?_)
 ·have hk0:0<k:=by simpa using h
  have hquo:=aNc (.p .int) (t:=k) au;have hrem:=aRS (.p .int) k;have hdm:k / B * B+k % B=k:=by rw[Bi];exact El k B
  have hmod:k % B<1000000000:=Dj k jB;have hdiv:k / B<k:=Nat.div_lt_self hk0 ay;have hpow:B ^ d.length<=n:=by
   have:B ^ d.length * 1<=B ^ d.length * k:=Bh _ hk0;omega
  have hdl:d.length<=100:=by
   rcases Bj 100 d.length with h | h
   ·have h1:B ^ 3<=B ^ d.length:=Ci jB au;have h2:(18446744073709551615:Nat)<B ^ 3:=by decide
    omega
   ·exact h
  have hstep:val d+B ^ d.length * (k % B)+B ^ (d.length+1) * (k / B)=n:=by
   rw[<-hinv,Cy,Bl,Cx,<-Cn];congr 2;rw[Bi B,Fv];exact hdm
  generalize k / B=q at hdm hquo hdiv hstep;generalize k % B=r at hdm hmod hrem hstep;have w1:IntKind.u32.wrap (r:Int)=(r:Int):=wrap_u32 au au;have⟨v',S2,happ,hg,hS2⟩:=hv.app (w:=r) (bytes:=4) hS ax ax;refine aQ (aE (aM ?_));simp [p0,p3,hrem,w1,lI (k:=.u32) (n:=(r:Int))];refine fK (fun call=>by simp [p3];exact happ) ?_;simp;refine aM ?_;simp [p0,hquo];refine⟨q,hdiv,rfl,au,d++ [r],hg,hS2,cK.append.2 ⟨hsd,fun z hz=>?_⟩,?_,?_⟩
  ·have:z=r:=by simpa using hz
   rw[this];exact hmod
  ·rw[iO,Aj];exact hstep
  ·right;rw[Aj];exact hpow
 ·have hk0:k=0:=by
   have:¬0<k:=by simpa using h
   omega
  subst hk0;simp;refine bK ?_;simp [p3];refine aK ?_;simp;refine⟨⟨d,hv.limbs,xR hsd ?_,by simpa using hinv⟩,hS⟩;rcases hlow with h | h
  ·exact .inl h
  ·right;simp at hinv;omega
theorem aHa{l:bt}{j:Nat}(h:j<l.length):val (l.drop j)=l[j]?.getD 0+B * val (l.drop (j+1)):=by
 rw[Bw h,eZ];simp [h]
theorem aMe{S:St}{v:AV}{l:bt}(hfn:fns.get 99=some a99)(h:cO S v l)(hs:cK l)(hlen:l.length<=2):eT fns (.fn 99 [] []) [v] S fun r S'=>r= .int .u64 (val l:Int)/\S'=S:=by
 have hbound:∀k,val (l.drop k)<1000000000000000000:=fun k=>by
  have h1:=iA (l:=l.drop k) (fun x hx=>hs x (Ej hx));have h2:B ^ (l.drop k).length<=B ^ 2:=Ci jB (by simp;omega);have h3:B ^ 2=1000000000000000000:=by decide
  omega
 refine bL hfn (by simp) ?_;simp;refine bK ?_;simp;refine bK ?_;simp;refine fA ?_;simp [h.len];refine aQ (bX (fun k A S'=>S'=S/\A.inr=false/\aB 0 A.F=v/\aB 3 A.F= .int .u64 (val (l.drop k):Int)/\aB 4 A.F= .int .i64 ((k:Int) - 1)/\k<=l.length) ?_ l.length _ _ ⟨rfl,rfl,by simp,by simp [dV],by simp;exact wrap_i64 au au,Af _⟩);rintro k ⟨F,inr⟩ S' ⟨rfl,rfl,p0,p3,p4,hk⟩;simp only at p0 p3 p4;refine fA ?_;cases k with
 | zero=>
  simp [p4];refine aO (by simp) (bS ?_);simp;refine bK ?_;simp [p3];refine aK ?_;simp
 | succ j=>
  have hj:j<l.length:=by omega
  have e4:aB 4 F= .int .i64 (j:Int):=by rw[p4];congr 1;omega
  have hld:=h.ld hj;rw[Ae] at hld;have hv:=aHa hj;have hb1:=hbound j;have hcast:((B * val (l.drop (j+1)):Nat):Int)=(val (l.drop (j+1)):Int) * 1000000000:=by rw[Bi,Bk,aNv]
  generalize hz:B * val (l.drop (j+1))=z at hv hcast;generalize l[j]?.getD 0=x at hld hv;generalize val (l.drop (j+1))=y at p3 hcast;have w1:IntKind.u64.wrap ((y:Int) * 1000000000)=(z:Int):=by rw[<-hcast];exact wrap_u64 au au
  have w2:IntKind.u64.wrap (x:Int)=(x:Int):=wrap_u64 au au;have w3:IntKind.u64.wrap ((z:Int)+(x:Int))=(val (l.drop j):Int):=by rw[wrap_u64 au au];omega
  simp [e4];refine aP (by simp) (aJ ?_);simp;refine aE (aQ (aM ?_));simp [p0,p3,e4,h.cq hj,hld,w1,w2,w3];refine aM ?_;simp [e4];exact⟨j,au,by simp [p0],rfl,by exact wrap_i64 au au,au⟩
theorem aK9{j w:Nat}{qs:bt}:(List.replicate (j+1) 0++qs).set j w=List.replicate j 0++(w::qs):=by
 rw[List.replicate_succ',Be,Hh];simp
theorem aC7{x y qv b w r r' t c:Nat}(h1:y=qv * b+r)(ht:r * c+x=t)(hd:w * b+r'=t):x+c * y=(w+c * qv) * b+r':=by
 subst h1;rw[Cn,Ch,Bl,Bi c r];omega
def aRw(S:St)(a:AV)(l:bt)(b k:Nat)(A:bN)(S':St):Prop:=
 A.inr=false/\∃ (qs:bt) (r:Nat),aB 0 A.F=a/\aB 1 A.F= .int .u32 (b:Int)/\aB 6 A.F= .sl S.nx 0 l.length l.length false/\aB 7 A.F= .int .u64 (r:Int)/\aB 8 A.F= .int .i64 ((k:Int) - 1)/\k<=l.length/\
   qs.length+k=l.length/\Same S S'/\S.nx<S'.nx/\S'.h.get S.nx=some (.cells (cC (List.replicate k 0++qs)) false 0)/\cK qs/\r<b/\val (l.drop k)=val qs * b+r
theorem aED{S:St}{a:AV}{l:bt}{b:Nat}(h_trim:fns.get 139=some a139)(hfn:fns.get 136=some a136)(ha:cO S a l)(hl:cK l)(hlen:l.length<=100000)(hb:0<b)(hbB:b<=B):
  eT fns (.fn 136 [] []) [a,.int .u32 (b:Int)] S fun r S'=>∃q,r= .tup [q,.int .u32 ((val l % b:Nat):Int)]/\dG S' q (val l / b)/\Same S S':=by
 have hr1:l.length<=room:=by unfold room;omega
 have hr2:4 * l.length<=room:=by unfold room;omega
 have hB:B=1000000000:=rfl;refine bL hfn (by simp) ?_;simp;refine bK ?_;simp;refine bK ?_;simp [ha.len,oJ (n:=l.length),hr1,hr2];refine bK ?_;simp;refine fA ?_;simp [ha.len];refine aQ (bX (aRw S a l b) ?_ l.length _ _
   ⟨rfl,[],0,by simp,by simp,by simp,by simp,by simp;exact wrap_i64 au au,Af _,by simp,Same.alloc S _,by simp,by simp [dq,jF],cK.nil,hb,by simp [dV]⟩)
 rintro k ⟨F,inr⟩ S' ⟨p,qs,r,p0,p1,p6,p7,p8,hk,hq,hS,hnx,hblk,hqs,hr,hinv⟩;simp only at p p0 p1 p6 p7 p8;subst p;have ha':=ha.same hS;refine fA ?_;cases k with
 | zero=>
  have hout:=mF (n:=l.length) (o':=false) (cap:=l.length) hblk hnx (by simp;omega) (Af _);simp at hout hinv hq;have hdiv:val l / b=val qs/\val l % b=r:=by
   rw[hinv];constructor
   ·rw[Fv,Nat.add_mul_div_right _ _ hb,Nat.div_eq_of_lt hr];omega
   ·rw[Fv,Gm,Ec hr]
  have w1:IntKind.u32.wrap (r:Int)=(r:Int):=wrap_u32 au au;simp [p8];refine aO (by simp) (bS ?_);simp;refine bK ?_;simp [p6];refine aL ?_;simp;refine aF (qR h_trim hout hqs au) ?_;rintro v S1 ⟨hN,rfl⟩;simp [p7,w1];refine aK ?_;simp only[aAU,yT,sK,aH,cI,yQ,bF,rE,Cq,Bx];have hmodI:(val l:Int) % (b:Int)=(r:Int):=by rw[<-hdiv.2];simp
  rw[hdiv.1,hmodI];exact⟨v,rfl,hN,hS⟩
 | succ j=>
  have hj:j<l.length:=by omega
  have e8:aB 8 F= .int .i64 (j:Int):=by rw[p8];congr 1;omega
  have hld:=ha'.ld hj;rw[Ae] at hld;have hx:l[j]?.getD 0<B:=by
   have:=hl.get (Ad hj);simpa [hj] using this
  have hv:=aHa hj;generalize l[j]?.getD 0=x at hld hx hv;have hrc:r * 1000000000<b * 1000000000:=Ey hr ay;have hbc:b * 1000000000<=1000000000 * 1000000000:=Ar _ hbB;obtain⟨t,ht⟩:∃t,r * 1000000000+x=t:=⟨_,rfl⟩;have w1:IntKind.u64.wrap ((r:Int) * 1000000000)=((r * 1000000000:Nat):Int):=by rw[wrap_u64 au au];simp
  have w2:IntKind.u64.wrap (x:Int)=(x:Int):=wrap_u64 au au;have w3:IntKind.u64.wrap (((r * 1000000000:Nat):Int)+(x:Int))=(t:Int):=by rw[wrap_u64 au au];omega
  have w4:IntKind.u64.wrap (b:Int)=(b:Int):=wrap_u64 au au;have hquo:=nO (.p .int) (t:=t) (d:=b) au hb;have hrem:=xJ (.p .int) (t:=t) (d:=b) hb;have hdm:t / b * b+t % b=t:=by rw[Bi];exact El t b
  have hmod:t % b<b:=Dj t hb;have hwB:t / b<B:=by
   rw[Ed hb,hB,Bi];have:(r+1) * 1000000000<=b * 1000000000:=Ar _ hr;omega
  generalize t / b=w at hquo hdm hwB;generalize t % b=r' at hrem hdm hmod;have w5:IntKind.u32.wrap (w:Int)=(w:Int):=wrap_u32 au au;have hst:=aA7 (w:=w) hblk (p:=j) (by simp;omega);rw[aK9] at hst;have hiad:dT (.slice 1) (.sl S.nx 0 l.length l.length false) j=some (.ptr S.nx j):=by rw[lY hj];simp
  simp [e8];refine aP (by simp) (aJ ?_);simp;refine aE (aQ (aE (aM ?_)));simp only[jS,fS,cI,jR,iF,iH,gH,mQ,fB,mX,bF,iG,mE,lH,mL,aW,aH,rE,Cq,Bx,reduceCtorEq,dL,eH,eF,p0,p7,e8,ha'.cq hj,hld,w1,w2,w3];refine bK ?_;simp only[jS,fS,cI,jR,iF,iH,gH,mQ,fB,mX,bF,iG,aW,aH,rE,Cq,Bx,reduceCtorEq,dL,p1,p6,e8,w4,hquo,w5,hiad];refine fK (fun call=>by simp only[dW,fB,bF,rE,Cq,Bx,cN,aH];exact hst) ?_;simp only[fS,dL,fQ];refine aM ?_;simp only[jS,fS,cI,jR,iF,iH,fB,mX,bF,iG,rE,Cq,Bx,reduceCtorEq,eH,dL,p1,w4,hrem];refine aM ?_;simp only[jS,fS,cI,jR,iH,fB,mX,bF,mL,rE,Cq,Bx,reduceCtorEq,eF,e8];refine⟨j,au,rfl,w::qs,r',by simp [p0],by simp [p1],by simp [p6],by simp,by simp;exact wrap_i64 au au,au,by simp;omega,hS.put (Af _) _,hnx,?_,cK.cons.2 ⟨hwB,hqs⟩,hmod,?_⟩
  ·simp only;rw[dq,if_pos rfl]
  ·rw[hv,eZ];exact aC7 hinv (by rw[hB];exact ht) hdm
def aRD(S:St)(a:AV)(l:bt)(x size k:Nat)(A:bN)(S':St):Prop:=
 A.inr=false/\∃ (i:Nat) (d:bt) (c:Nat),i+k=size/\d.length=i/\aB 0 A.F=a/\aB 1 A.F= .int .u64 (x:Int)/\aB 7 A.F= .sl S.nx 0 size size false/\aB 8 A.F= .int .u64 (c:Int)/\aB 13 A.F= .int .i64 (size:Int)/\aB 14 A.F= .int .i64 (i:Int)/\
  Same S S'/\S.nx<S'.nx/\S'.h.get S.nx=some (.cells (cC (d++List.replicate (size - i) 0)) false 0)/\cK d/\c<B/\val d+c * B ^ i=val (l.take i) * x
theorem aJs{p y x r c w c' b:Nat}(hinv:r+c * b=p * x)(hw:w+c' * B=c+y * x):(r+b * w)+c' * (b * B)=(p+b * y) * x:=by
 have h1:b * (w+c' * B)=b * (c+y * x):=by rw[hw]
 rw[Cn,Cn] at h1;have h2:b * (c' * B)=c' * (b * B):=by rw[<-Bl,Bi b c',Bl]
 have h3:b * c=c * b:=Bi _ _;rw[Ch,<-hinv,Bl];omega
theorem aD9{S:St}{a:AV}{l:bt}{x size:Nat}(hfn:fns.get 137=some a137)(ha:cO S a l)(hl:cK l)(hx:x<=B)(hsz:size<=200000)(hls:l.length<=size)(hfit:val l * x<B ^ size):
  eT fns (.fn 137 [] []) [a,.int .u64 (x:Int),.int .i64 (size:Int)] S fun r S'=>∃d,r= .sl S.nx 0 size size false/\S.nx<S'.nx/\S'.h.get S.nx=some (.cells (cC d) false 0)/\d.length=size/\cK d/\val d=val l * x/\Same S S':=by
 have hr1:size<=room:=by unfold room;omega
 have hr2:4 * size<=room:=by unfold room;omega
 have hB:B=1000000000:=rfl;refine bL hfn (by simp) ?_;simp;refine bK ?_;simp;refine bK ?_;simp [oJ (n:=size),hr1,hr2];refine bK ?_;simp;refine fA ?_;simp [lB];refine aQ (bX (aRD S a l x size) ?_ size _ _ ⟨rfl,0,[],0,by simp,rfl,by simp,by simp,by simp,by simp,by simp,by simp,Same.alloc S _,by simp,by simp [dq,jF],cK.nil,by decide,by simp [dV]⟩);rintro k ⟨F,inr⟩ S' ⟨p,i,d,c,hk,hd,p0,p1,p7,p8,p13,p14,hS,hnx,hblk,hsd,hc,hinv⟩;simp only at p p0 p1 p7 p8 p13 p14;subst p;have ha':=ha.same hS;refine bK ?_;simp [p13,p14];refine aE (jG (t:=decide (i<size)) (by simp) (fun h=>aJ ?_) (fun h=>bS ?_))
 ·have hi:i<size:=by simpa using h
  have hy:l[i]?.getD 0<B:=by
   by_cases h:i<l.length
   ·have:=hl.get (Ad h);simpa [h] using this
   ·simp [show l.length<=i by omega,B]
  have hyld:∀h:i<l.length,dJ (nQ a i) false 1 S'.h=some (.int .u32 ((l[i]?.getD 0:Nat):Int)):=fun h=>by
   have:=ha'.ld h
   rwa [Ae] at this
  have hyz:¬i<l.length->l[i]?.getD 0=0:=fun h=>by simp [show l.length<=i by omega]
  have etk:val (l.take (i+1))=val (l.take i)+B ^ i * (l[i]?.getD 0):=by rw[gJ,Ae]
  generalize l[i]?.getD 0=y at hy hyld hyz etk;have hyx:y * x<=999999999 * 1000000000:=Dw au au;have w1:IntKind.u64.wrap (y:Int)=(y:Int):=wrap_u64 au au;have w2:IntKind.u64.wrap ((y:Int) * (x:Int))=((y * x:Nat):Int):=by rw[<-Bk];exact wrap_u64 au au
  have w3:IntKind.u64.wrap ((c:Int)+((y * x:Nat):Int))=((c+y * x:Nat):Int):=by rw[wrap_u64 au au];omega
  have htt:∃t,c+y * x=t:=⟨_,rfl⟩;have⟨t,ht⟩:=htt;rw[ht] at w3;refine aE (aQ (aE (aM ?_)));simp only[jS,fS,cI,jR,fB,bF,rE,Cq,Bx,dL,p14];refine aE (bG (Q:=fun o A' S''=>o= .normal/\S''=S'/\A'.inr=false/\aB 0 A'.F=a/\aB 1 A'.F= .int .u64 (x:Int)/\aB 7 A'.F= .sl S.nx 0 size size false/\aB 8 A'.F= .int .u64 (t:Int)/\aB 9 A'.F= .int .i64 (i:Int)/\aB 13 A'.F= .int .i64 (size:Int)/\aB 14 A'.F= .int .i64 (i:Int)) ?_ ?_)
  ·refine bK ?_;simp [p0,ha'.len];refine jG (t:=decide (i<l.length)) (by simp) (fun h=>?_) (fun h=>aJ ?_)
   ·have him:i<l.length:=by simpa using h
    refine aM ?_;simp only[jS,fS,cI,jR,iF,iH,gH,mQ,fB,mX,bF,iG,mE,lH,aW,aH,rE,Cq,Bx,reduceCtorEq,p0,p1,p8,ha'.cq him,hyld him,w1,w2,w3];simp [p0,p1,p7,p13,p14]
   ·have him:¬i<l.length:=by simpa using h
    have:=hyz him;subst this;have:t=c:=by omega
    subst this;simp [p0,p1,p7,p8,p13,p14]
  rintro o ⟨F2,inr2⟩ S'' ⟨rfl,rfl,rfl,g0,g1,g7,g8,g9,g13,g14⟩;simp only at g0 g1 g7 g8 g9 g13 g14;have hquo:=aNc (.p .int) (t:=t) au;have hrem:=aRS (.p .int) t;have hdm:t / B * B+t % B=t:=by rw[Bi];exact El t B
  have hmod:t % B<1000000000:=Dj t jB;have hqB:t / B<B:=by rw[Ed jB,hB];omega
  generalize t / B=q at hquo hdm hqB;generalize t % B=r at hrem hdm hmod;have w4:IntKind.u32.wrap (r:Int)=(r:Int):=wrap_u32 au au;have hiad:dT (.slice 1) (.sl S.nx 0 size size false) i=some (.ptr S.nx i):=by rw[lY hi];simp
  have hst:=aA7 (w:=r) hblk (p:=i) (by simp [hd];omega);have hset:(d++List.replicate (size - i) 0).set i r=d++ [r]++List.replicate (size - (i+1)) 0:=by rw[<-hd];exact qQ au
  rw[hset] at hst;show nD fns _ _ _ _;refine bK ?_;simp only[jS,fS,cI,jR,iF,iH,gH,fB,mX,bF,iG,aW,aH,rE,Cq,Bx,reduceCtorEq,g7,g8,g9,hrem,w4,hiad];refine fK (fun call=>by simp only[dW,fB,bF,rE,Cq,Bx,cN,aH];exact hst) ?_;simp only[fS,dL,fQ];refine aM ?_;simp only[jS,fS,cI,jR,iH,fB,mX,bF,rE,Cq,Bx,reduceCtorEq,eH,dL,g8,hquo];refine aM ?_;have w7:=dk i
  simp only[jS,fS,cI,jR,iH,fB,mX,bF,lH,rE,Cq,Bx,reduceCtorEq,eF,g14,w7];refine⟨k - 1,au,rfl,i+1,d++ [r],q,au,by simp [hd],by simp [g0],by simp [g1],by simp [g7],by simp,by simp [g13],by simp,hS.put (Af _) _,hnx,?_,cK.append.2 ⟨hsd,fun z hz=>?_⟩,hqB,?_⟩
  ·simp only;rw[dq,if_pos rfl]
  ·have:z=r:=by simpa using hz
   rw[this];exact hmod
  ·rw[iO,hd,etk,Cy];exact aJs hinv au
 ·have hi:i=size:=by
   have:¬i<size:=by simpa using h
   omega
  subst hi;rw[Ay hls] at hinv;have hc0:c=0:=by
   rcases An c with h | h
   ·exact h
   ·have:1 * B ^ i<=c * B ^ i:=Ar _ h;omega
  subst hc0;simp at hblk;simp;refine bK ?_;simp [p7];refine aK ?_;simp;exact⟨hnx,d,hblk,hd,hsd,au,hS⟩
def qY:List AO->Fr->T AB->(Fr->Prop)->Prop
 | [],F,_,Q=>Q F
 | ⟨d,.q q,g,_⟩::l,F,h,Q=>if fI g F=true then mT (iT q F h) fun v=>(dK q=true->cQ v v=true)/\qY l (cJ d F v) h Q else qY l (cJ d F .undef) h Q
 | _::_,_,_,_=>False
theorem aEG{h:T AB}{base:Nat}{Q:Fr->Prop}:∀ {ops:List AO} {i:Nat} {D:DS},D.S.h=h->D.hs= []->D.ps= []->fT h [] D.ls=true->qY ops D.F h Q->
  wpd fns ops i base D fun D'=>Q D'.F/\D'.S=D.S/\D'.ps= []/\D'.hs= []/\fT h [] D'.ls=true
 | [],i,D,h1,h2,h3,h4,hr=>by rw[nF];exact⟨hr,rfl,h3,h2,h4⟩
 | ⟨d,.q q,g,m⟩::l,i,⟨F,S,ps,hs,ls⟩,h1,h2,h3,h4,hr=>by
  simp only at h1 h2 h3 h4 hr;subst h2;subst h3;simp only[qY] at hr;have go:∀ (_:mT (iT q F h) fun v=>(dK q=true->cQ v v=true)/\qY l (cJ d F v) h Q),wpd fns (⟨d,.q q,none,m⟩::l) i base ⟨F,S,[],[],ls⟩ fun D'=>Q D'.F/\D'.S=S/\D'.ps= []/\D'.hs= []/\fT h [] D'.ls=true:=by
   rintro⟨v,hv,hs,hr⟩;rw[sR];subst h1;refine⟨v,hv,aEG rfl rfl rfl ?_ hr⟩;show fT S.h [] (bO (dK q) (⟨q,F,v,i,m⟩::ls) ls)=true;cases hq:dK q with
   | false=>exact h4
   | true=>
    rw[aN,vN,aDO];show bO (qE v (iT q F S.h)) _ _=true;rw[hv,zW,hs hq,aN];exact h4
  cases g with
  | none=>exact go (by rw[if_pos (show fI none F=true from rfl)] at hr;exact hr)
  | some g=>
   have⟨s,b⟩:=g;by_cases hw:fI (some (s,b)) F=true
   ·rw[if_pos hw] at hr;have⟨n,D',e1,e2⟩:=go hr;refine⟨n,D',?_,e2⟩;have:tB ⟨d,.q q,some (s,b),m⟩ i base (ev fns n).call ⟨F,S,[],[],ls⟩=tB ⟨d,.q q,none,m⟩ i base (ev fns n).call ⟨F,S,[],[],ls⟩:=by
     show bO (fI (some (s,b)) F) _ _=bO true _ _;rw[hw];rfl
    show aU (tB ⟨d,.q q,some (s,b),m⟩ i base (ev fns n).call ⟨F,S,[],[],ls⟩) _=_;rw[this];exact e1
   ·rw[if_neg hw] at hr;obtain⟨n,D',e1,e2⟩:=aEG (i:=i+1) (D:=⟨cJ d F .undef,S,[],[],ls⟩) h1 rfl rfl h4 hr;refine⟨n,D',?_,e2⟩;have:tB ⟨d,.q q,some (s,b),m⟩ i base (ev fns n).call ⟨F,S,[],[],ls⟩=some ⟨cJ d F .undef,S,[],[],ls⟩:=by
     show bO (fI (some (s,b)) F) _ _=_;rw[show fI (some (s,b)) F=false by simpa using hw];rfl
    show aU (tB ⟨d,.q q,some (s,b),m⟩ i base (ev fns n).call ⟨F,S,[],[],ls⟩) _=_;rw[this];exact e1
 | ⟨d,.a a,g,m⟩::l,i,D,h1,h2,h3,h4,hr=>by cases hr
 | ⟨d,.x a,g,m⟩::l,i,D,h1,h2,h3,h4,hr=>by cases hr
theorem jK{ops:List AO}{A:bN}{S:St}{Q:Out->bN->St->Prop}(h:qY ops A.F S.h fun F=>Q .normal ⟨F,A.inr⟩ ⟨S.h,S.nx+ops.length⟩):nD fns (.drw ops) A S Q:=by
 refine vC ?_;have⟨n,D',e1,e2,e3,e4,e5,e6⟩:=aEG (fns:=fns) (base:=S.nx) (i:=0) (D:=⟨A.F,⟨S.h,S.nx+ops.length⟩,[],[],[]⟩) rfl rfl rfl rfl h;refine⟨n,D',e1,?_,?_⟩
 ·rw[e5];exact e6
 ·rw[e4,dF,e3];exact e2
theorem aDD{F:Fr}{h:T AB}{Q:Fr->Prop}:qY [] F h Q↔Q F:=Iff.rfl
theorem aJc{d:Option Nat}{q:QOp}{m:Nat}{l:List AO}{F:Fr}{h:T AB}{Q:Fr->Prop}:qY (⟨d,.q q,none,m⟩::l) F h Q↔mT (iT q F h) fun v=>(dK q=true->cQ v v=true)/\qY l (cJ d F v) h Q:=by
 show(if fI none F=true then _ else _)↔_;rw[if_pos (show fI none F=true from rfl)]
theorem aJC{d:Option Nat}{q:QOp}{s:Nat}{b:Bool}{m:Nat}{l:List AO}{F:Fr}{h:T AB}{Q:Fr->Prop}:qY (⟨d,.q q,some (s,b),m⟩::l) F h Q↔if isB (aB s F) b=true then qY (⟨d,.q q,none,m⟩::l) F h Q else qY l (cJ d F .undef) h Q:=by
 show(if fI (some (s,b)) F=true then _ else _)↔_;rw[show fI (some (s,b)) F=isB (aB s F) b from rfl];split
 ·rw[aJc]
 ·rfl
theorem aOO:(true==true)=true:=rfl
theorem aMX:(false==false)=true:=rfl
theorem aMY:(true==false)=false:=rfl
theorem aNC:(false==true)=false:=rfl
theorem aBR(b:Bool):isB .undef b=false:=rfl
theorem aAw(k:SlK)(x:cP)(a b c:Option cP):dK (.slc k x a b c)=false:=rfl
theorem rV(x:cP)(i:Nat):dK (.extract x i)=false:=rfl
theorem yG(c a b:cP):dK (.pick c a b)=false:=rfl
theorem aAp(g:Bool)(o n:Nat)(x:cP):dK (.fld g o n x)=false:=rfl
theorem aB9(op:UnOp)(x:cP):dK (.un op x)=false:=rfl
attribute [simp] aDD aJc aJC aBR aAw rV yG aAp aB9
def aNJ(x:Option AV)(ld:Bool)(d:Option Nat)(l:List AO)(F:Fr)(h:T AB)(Q:Fr->Prop):Prop:=mT x fun v=>(ld=true->cQ v v=true)/\qY l (cJ d F v) h Q
theorem aDr{v:AV}{ld:Bool}{d:Option Nat}{l:List AO}{F:Fr}{h:T AB}{Q:Fr->Prop}:aNJ (some v) ld d l F h Q↔(ld=true->cQ v v=true)/\qY l (cJ d F v) h Q:=by unfold aNJ;rw[cI]
theorem aOn{d:Option Nat}{q:QOp}{m:Nat}{l:List AO}{F:Fr}{h:T AB}{Q:Fr->Prop}:qY (⟨d,.q q,none,m⟩::l) F h Q↔aNJ (iT q F h) (dK q) d l F h Q:=aJc
def aOK(fns:T dD)(x:Option AV)(d:Option Nat)(l:List AO)(F:Fr)(S:St)(Q:Fr->St->Prop):Prop:=mT x fun v=>pU fns l (cJ d F v) S Q
theorem aEk{v:AV}{d:Option Nat}{l:List AO}{F:Fr}{S:St}{Q:Fr->St->Prop}:aOK fns (some v) d l F S Q↔pU fns l (cJ d F v) S Q:=by unfold aOK;rw[cI]
theorem aQK{d:Option Nat}{q:QOp}{m:Nat}{l:List AO}{F:Fr}{S:St}{Q:Fr->St->Prop}:pU fns (⟨d,.q q,none,m⟩::l) F S Q↔aOK fns (iT q F S.h) d l F S Q:=jS
def cB(b:Nat)(S S':St):Prop:=S.nx<=S'.nx/\∀c,c<S.nx->c≠b->S'.h.get c=S.h.get c
theorem cB.refl(b:Nat)(S:St):cB b S S:=⟨Af _,fun _ _ _=>rfl⟩
theorem cB.put{b:Nat}{S S':St}(h:cB b S S')(x:Option AB):cB b S ⟨S'.h.set b x,S'.nx⟩:=⟨h.1,fun c hc hne=>by simp only;rw[dq,if_neg hne];exact h.2 c hc hne⟩
theorem cB.trans{b:Nat}{S S' S'':St}(h:cB b S S')(h':cB b S' S''):cB b S S'':=⟨Bb h.1 h'.1,fun c hc hne=>(h'.2 c (Ag hc h.1) hne).trans (h.2 c hc hne)⟩
theorem cB.same{b:Nat}{S0 S S':St}(h0:Same S0 S)(h:cB b S S')(hb:S0.nx<=b):Same S0 S':=⟨Bb h0.1 h.1,fun c hc=>(h.2 c (Ag hc h0.1) au).trans (h0.2 c hc)⟩
theorem Same.nx(S:St)(k:Nat):Same S ⟨S.h,S.nx+k⟩:=⟨En _ _,fun _ _=>rfl⟩
theorem aCU{p u q:bt}{i off:Nat}(hp:p.length=off)(hi:i<u.length):(p++u++q)[off+i]? =u[i]? :=by
 subst hp;rw[Be,Aq au,Ap au];congr 1;omega
theorem aGZ{p u q:bt}{i off w:Nat}(hp:p.length=off)(hi:i<u.length):(p++u++q).set (off+i) w=p++u.set i w++q:=by
 subst hp;rw[Be,Hh,if_neg au,Hh,if_pos au,Be];congr 3;omega
theorem vO{p u q:bt}{i off:Nat}(hp:p.length=off)(hi:i<u.length):off+i<(p++u++q).length:=by simp;omega
theorem set_mid{d u:bt}{w:Nat}(h:d.length<u.length):(d++u.drop d.length).set d.length w=d++ [w]++u.drop (d.length+1):=by
 rw[Hh,if_neg au,Ef,Be];congr 1;rw[Bw h];rfl
theorem yR{x:Nat}(h:x<B):cK [x]:=cK.cons.2 ⟨h,cK.nil⟩
theorem getD_lt{l:bt}(h:cK l)(i:Nat):l[i]?.getD 0<B:=by
 by_cases hi:i<l.length
 ·have:=h.get (Ad hi);simpa [hi] using this
 ·simp [show l.length<=i by omega,B]
theorem dU(l:bt)(i:Nat):val (l.take (i+1))=val (l.take i)+B ^ i * (l[i]?.getD 0):=by rw[gJ,Ae]
abbrev stU:=And.intro @aQK (And.intro @aGD (And.intro @fS (And.intro @dL (And.intro @aCe (And.intro @aAf (And.intro @eH (And.intro @aAE (And.intro @wZ (And.intro @eF (And.intro @aAq (And.intro @yC (And.intro @aAU (And.intro @aDD (And.intro @aOn (@aJC)))))))))))))))
abbrev aG:=And.intro @aEk (And.intro @cI (And.intro @jR (And.intro @iF (And.intro @iH (And.intro @aI8 (And.intro @gH (And.intro @mQ (And.intro @qO (And.intro @xT (And.intro @aGL (And.intro @aDN (And.intro @aAj (And.intro @aCL (And.intro @fB (And.intro @mX (And.intro @bF (And.intro @fQ (And.intro @iG (And.intro @mE (And.intro @lH (And.intro @mL (And.intro @aGU (And.intro @aGP (And.intro @aGk (And.intro @aGX (And.intro @aCO (And.intro @aF9 (And.intro @aW (And.intro @aH (And.intro @yT (And.intro @sK (And.intro @aBU (And.intro @yQ (And.intro @zT (And.intro @pO (And.intro @aAl (And.intro @xK (And.intro @aDr (And.intro @xH (And.intro @aBR (And.intro @aOO (And.intro @aMX (And.intro @aMY (And.intro @aNC (And.intro @aBM (And.intro @aAg (And.intro @uZ (And.intro @aBI (And.intro @iI (And.intro @aAt (And.intro @aAw (And.intro @rV (And.intro @yG (And.intro @aAp (And.intro @aB9 (And.intro @kO (And.intro @uH (And.intro @aDV (And.intro @rX (And.intro @aAF (And.intro @Aw (And.intro @false_implies (And.intro @true_implies (And.intro @true_and (And.intro @and_true (And.intro @Ak (And.intro @Int.cast_ofNat_Int (And.intro @Int.natCast_zero (And.intro @Int.natCast_one (And.intro (@aN (T AB)) (And.intro (@aR (T AB)) (And.intro (@aN AV) (And.intro (@aR AV) (And.intro (@Ck AV) (And.intro (@Cu AV) (And.intro (@Cb AV) (And.intro (@Ck Nat) (And.intro (@Cu Nat) (@Cb Nat)))))))))))))))))))))))))))))))))))))))))))))))))))))))))))))))))))))))))))))))
theorem dz{p q r:Prop}(b:r)(a:q)(h:r->q->p:=by intro b a;simp only[↓stU,aG,Nat.reduceEqDiff,↓reduceIte,Nat.reduceAdd,b];exact a):p:=h b a
theorem d7{p q r s:Prop}(b:r)(c:s)(a:q)(h:r->s->q->p:=by intro b c a;simp only[↓stU,aG,Nat.reduceEqDiff,↓reduceIte,Nat.reduceAdd,b,c];exact a):p:=h b c a
theorem d9{p q r s t:Prop}(b:r)(c:s)(d:t)(a:q)(h:r->s->t->q->p:=by intro b c d a;simp only[↓stU,aG,Nat.reduceEqDiff,↓reduceIte,Nat.reduceAdd,b,c,d];exact a):p:=h b c d a
theorem ed{p q r s t u:Prop}(b:r)(c:s)(d:t)(e:u)(a:q)(h:r->s->t->u->q->p:=by intro b c d e a;simp only[↓stU,aG,Nat.reduceEqDiff,↓reduceIte,Nat.reduceAdd,b,c,d,e];exact a):p:=h b c d e a
theorem ef{p q r s t u v:Prop}(b:r)(c:s)(d:t)(e:u)(f:v)(a:q)(h:r->s->t->u->v->q->p:=by intro b c d e f a;simp only[↓stU,aG,Nat.reduceEqDiff,↓reduceIte,Nat.reduceAdd,b,c,d,e,f];exact a):p:=h b c d e f a
theorem eh{p q r s t u v w x y:Prop}(b:r)(c:s)(d:t)(e:u)(f:v)(g:w)(i:x)(j:y)(a:q)(h:r->s->t->u->v->w->x->y->q->p:=by intro b c d e f g i j a;simp only[↓stU,aG,Nat.reduceEqDiff,↓reduceIte,Nat.reduceAdd,b,c,d,e,f,g,i,j];exact a):p:=h b c d e f g i j a
theorem ek{p q r:Prop}(b:r)(a:q)(h:r->q->p:=by intro b a;simp only[↓stU,aG,Nat.reduceEqDiff,↓reduceIte,b];exact a):p:=h b a
theorem eo{p q r s:Prop}(b:r)(c:s)(a:q)(h:r->s->q->p:=by intro b c a;simp only[↓stU,aG,Nat.reduceEqDiff,↓reduceIte,b,c];exact a):p:=h b c a
theorem er{p q r s t:Prop}(b:r)(c:s)(d:t)(a:q)(h:r->s->t->q->p:=by intro b c d a;simp only[↓stU,aG,Nat.reduceEqDiff,↓reduceIte,b,c,d];exact a):p:=h b c d a
theorem eu{p q r s t u:Prop}(b:r)(c:s)(d:t)(e:u)(a:q)(h:r->s->t->u->q->p:=by intro b c d e a;simp only[↓stU,aG,Nat.reduceEqDiff,↓reduceIte,b,c,d,e];exact a):p:=h b c d e a
theorem fa{p q r s t u v:Prop}(b:r)(c:s)(d:t)(e:u)(f:v)(a:q)(h:r->s->t->u->v->q->p:=by intro b c d e f a;simp only[↓stU,aG,Nat.reduceEqDiff,↓reduceIte,b,c,d,e,f];exact a):p:=h b c d e f a
theorem ff{p q r s t u v w:Prop}(b:r)(c:s)(d:t)(e:u)(f:v)(g:w)(a:q)(h:r->s->t->u->v->w->q->p:=by intro b c d e f g a;simp only[↓stU,aG,Nat.reduceEqDiff,↓reduceIte,b,c,d,e,f,g];exact a):p:=h b c d e f g a
theorem fg{p q r s t u v w x:Prop}(b:r)(c:s)(d:t)(e:u)(f:v)(g:w)(i:x)(a:q)(h:r->s->t->u->v->w->x->q->p:=by intro b c d e f g i a;simp only[↓stU,aG,Nat.reduceEqDiff,↓reduceIte,b,c,d,e,f,g,i];exact a):p:=h b c d e f g i a
theorem aj{p q:Prop}(a:q)(h:q->p:=by intro a;simp only[↓stU,aG,Nat.reduceEqDiff,↓reduceIte];exact a):p:=h a
theorem ak{p:Prop}(h:p:=by simp only[↓stU,aG,Nat.reduceEqDiff,↓reduceIte]):p:=h
theorem am{p q:Prop}(a:q)(h:q->p:=by intro a;simp only[↓stU,aG,Nat.reduceEqDiff,↓reduceIte,a]):p:=h a
theorem ap{p q:Prop}(a:q)(h:q->p:=by intro a;simp only[↓stU,aG,Nat.reduceEqDiff,↓reduceIte,Nat.reduceAdd];exact a):p:=h a
theorem aq{p:Prop}(h:p:=by simp only[↓stU,aG,Nat.reduceEqDiff,↓reduceIte,Nat.reduceAdd]):p:=h
theorem ar{p q:Prop}(a:q)(h:q->p:=by intro a;simp only[↓stU,aG,Nat.reduceEqDiff,↓reduceIte,Nat.reduceAdd,a]):p:=h a
def aIZ(S:St)(u v:AV)(m y1 top q:Nat)(k:Nat)(A:bN)(S':St):Prop:=
 A.inr=false/\∃g r,aB 0 A.F=u/\aB 1 A.F=v/\aB 5 A.F= .int .i64 ((m+2:Nat):Int)/\aB 7 A.F= .int .u64 ((g:Nat):Int)/\aB 8 A.F= .int .u64 ((r:Nat):Int)/\g * y1+r=top/\q<=g/\k=g/\g<=1000000001/\r<2000000000/\S'.h=S.h/\S.nx<=S'.nx
def aSm(b off:Nat)(S:St)(v:AV)(m g:Nat)(p u0 w lv:bt)(u:AV)(k:Nat)(A:bN)(S':St):Prop:=
 A.inr=false/\∃ (i:Nat) (d:bt) (c:Nat),i+k=m+2/\d.length=i/\aB 0 A.F=u/\aB 1 A.F=v/\aB 5 A.F= .int .i64 ((m+2:Nat):Int)/\aB 7 A.F= .int .u64 ((g:Nat):Int)/\aB 9 A.F= .int .u64 ((c:Nat):Int)/\aB 85 A.F=v/\aB 86 A.F= .int .i64 ((m+2:Nat):Int)/\aB 87 A.F= .int .i64 ((i:Nat):Int)/\
  cB b S S'/\S'.h.get b=some (.cells (cC (p++(d++u0.drop i)++w)) false 0)/\cK d/\c<B/\val d+g * val (lv.take i)=val (u0.take i)+c * B ^ i
def aSn(b off:Nat)(S:St)(v:AV)(m g:Nat)(p u0 w lv:bt)(u:AV)(k:Nat)(A:bN)(S':St):Prop:=
 A.inr=false/\∃ (i:Nat) (d:bt) (c:Nat),i+k=m+2/\d.length=i/\aB 0 A.F=u/\aB 5 A.F= .int .i64 ((m+2:Nat):Int)/\aB 7 A.F= .int .u64 ((g:Nat):Int)/\aB 14 A.F= .int .u32 ((c:Nat):Int)/\aB 130 A.F=v/\aB 131 A.F= .int .i64 ((m+2:Nat):Int)/\aB 132 A.F= .int .i64 ((i:Nat):Int)/\
  cB b S S'/\S'.h.get b=some (.cells (cC (p++(d++u0.drop i)++w)) false 0)/\cK d/\c<=1/\val d+c * B ^ i=val (u0.take i)+val (lv.take i)
theorem aI0{S:St}{b off m cap bv:Nat}{p u w lv:bt}(hfn:fns.get 138=some a138)(hblk:S.h.get b=some (.cells (cC (p++u++w)) false 0))(hv:S.h.get bv=some (.cells (cC lv) false 0))(hne:bv≠b)(hbv:bv<S.nx)
  (hm:lv.length=m+2) (hu:u.length=m+3) (hp:p.length=off) (hmm:m<=100000) (hus:cK u) (hvs:cK lv) (htop:B<=2 * lv[m+1]?.getD 0) (hlt:val u<val lv * B):
  eT fns (.fn 138 [] []) [.sl b off (m+3) cap false,.sl bv 0 (m+2) (m+2) false] S fun r S'=>r= .int .u32 ((val u / val lv:Nat):Int)/\val u / val lv<B/\
   ∃d,d.length=m+2/\S'.h.get b=some (.cells (cC (p++(d++ [0])++w)) false 0)/\cK d/\val d=val u % val lv/\cB b S S':=by
 have hB:B=1000000000:=rfl;have hu0:=getD_lt hus (m+2);have hu1:=getD_lt hus (m+1);have hu2:=getD_lt hus m;have hv1:=getD_lt hvs (m+1);have hv2:=getD_lt hvs m;have eU0:val u=val (u.take (m+2))+B ^ (m+2) * u[m+2]?.getD 0:=by
  have:=dU u (m+2);rwa [Ay au] at this
 have hdr:u.drop (m+2)= [u[m+2]?.getD 0]:=by
  have h:m+2<u.length:=by omega
  rw[Bw h,Dp au,Ad h];rfl
 have eU1:=dU u (m+1);have eU2:=dU u m;have eV1:val lv=val (lv.take (m+1))+B ^ (m+1) * lv[m+1]?.getD 0:=by
  have:=dU lv (m+1);rwa [Ay au] at this
 have eV2:=dU lv m;have lU:val (u.take m)<B ^ m:=by have:=iA (hus.take m);rwa [Bq,Dm au] at this
 have lV:val (lv.take m)<B ^ m:=by have:=iA (hvs.take m);rwa [Bq,Dm au] at this
 have lUn:val (u.take (m+2))<B ^ (m+2):=by have:=iA (hus.take (m+2));rwa [Bq,Dm au] at this
 have lVn:val lv<B ^ (m+2):=by have:=iA hvs;rwa [hm] at this
 have gU:∀i,i<m+3->(p++u++w)[off+i]? =u[i]? :=fun i hi=>aCU hp au;have gl:∀i,i<m+3->off+i<(p++u++w).length:=fun i hi=>vO hp au;have ldU:∀i,i<m+3->dJ (.ptr b (off+i * 1)) false 1 S.h=some (.int .u32 ((u[i]?.getD 0:Nat):Int)):=fun i hi=>by
  rw[Bt];have:=aCC hblk (gl i hi);rwa [gU i hi] at this
 have ldV:∀i,i<m+2->dJ (.ptr bv (0+i * 1)) false 1 S.h=some (.int .u32 ((lv[i]?.getD 0:Nat):Int)):=fun i hi=>by
  rw[Bt,Ao];exact aCC hv au
 have l0:=ldU (m+2) au;have l1:=ldU (m+1) au;have l2:=ldU m au;have k1:=ldV (m+1) au;have k2:=ldV m au;generalize u[m+2]?.getD 0=x0 at *;generalize u[m+1]?.getD 0=x1 at *;generalize u[m]?.getD 0=x2 at *;generalize lv[m+1]?.getD 0=y1 at *;generalize lv[m]?.getD 0=y2 at *;have ia:∀i,i<m+3->dT (.slice 1) (.sl b off (m+3) cap false) i=some (.ptr b (off+i * 1)):=fun i hi=>lY hi;have iv:∀i,i<m+2->dT (.slice 1) (.sl bv 0 (m+2) (m+2) false) i=some (.ptr bv (0+i * 1)):=fun i hi=>lY hi;obtain⟨U,hU⟩:∃U,val u=U:=⟨_,rfl⟩;obtain⟨V,hV⟩:∃V,val lv=V:=⟨_,rfl⟩;have ep1:B ^ (m+1)=B ^ m * B:=Cy ..;have ep2:B ^ (m+2)=B ^ m * B * B:=by rw[Cy,Cy]
 have fU:U=((x0 * B+x1) * B+x2) * B ^ m+val (u.take m):=by rw[<-hU,eU0,eU1,eU2,ep1,ep2];grind
 have fV:V=(y1 * B+y2) * B ^ m+val (lv.take m):=by rw[<-hV,eV1,eV2,ep1];grind
 rw[hU,hV] at hlt;rw[hU,hV];rw[hV] at lVn;have hVp:0<V:=by
  rcases An V with h | h
  ·rw[h] at hlt;omega
  ·exact h
 have hq1:U / V * V<=U:=Nat.div_mul_le_self ..;have hq2:U<(U / V+1) * V:=by rw[Bi];exact Nat.lt_mul_div_succ U hVp
 have hqB:U / V<B:=by rw[Ed hVp,Bi];exact hlt
 have hrem:U % V=U - U / V * V:=by have:=El U V;rw[Bi] at this;omega
 rw[hrem];generalize U / V=q at *;obtain⟨P,hP⟩:∃P,B ^ m=P:=⟨_,rfl⟩;have hPp:0<P:=by rw[<-hP];exact Fx jB
 rw[hP] at fU fV lU lV ep1 ep2;rw[ep2] at lVn lUn;have ht64:x0 * 1000000000<=999999999 * 1000000000:=Ar _ au;obtain⟨top,htp⟩:∃top,x0 * 1000000000+x1=top:=⟨_,rfl⟩;have htp':x0 * B+x1=top:=htp;rw[htp'] at fU;have hx0:x0<=y1:=by
  rcases Bj y1 x0 with h | h
  ·exfalso
   have h1:(y1+1) * (B * B * P)<=x0 * (B * B * P):=Ar _ h;have e1:x0 * (B * B * P)<=U:=by
     rw[fU,<-htp'];have:(((x0 * B+x1) * B+x2) * P)=x0 * (B * B * P)+(x1 * B+x2) * P:=by grind
     omega
   have e2:V * B<=(y1+1) * (B * B * P):=by
    have a1:y2 * P+P<=B * P:=by have:=Ar P (show y2+1<=B by omega);rw[Ch] at this;omega
    have a2:V<=(y1+1) * (B * P):=by
      rw[fV];have:(y1 * B+y2) * P=y1 * (B * P)+y2 * P:=by grind
      have e:=Ch y1 1 (B * P);omega
    have a3:V * B<=(y1+1) * (B * P) * B:=Ar _ a2;have:(y1+1) * (B * P) * B=(y1+1) * (B * B * P):=by grind
    omega
   omega
  ·exact h
 have hy1p:0<y1:=by omega
 refine bL hfn (by simp) ?_;refine aj ?_;refine bK (aj ?_);refine bK ?_;have hlv:lB (.sl bv 0 (m+2) (m+2) false)=some (.int .i64 ((m+2:Nat):Int)):=rfl;refine ek hlv ?_;have wn1:IntKind.i64.wrap (((m+2:Nat):Int) - 1)=((m+1:Nat):Int):=by rw[wrap_i64 au au];omega
 have wn2:IntKind.i64.wrap (((m+2:Nat):Int) - 2)=((m:Nat):Int):=by rw[wrap_i64 au au];omega
 have wx0:IntKind.u64.wrap (x0:Int)=(x0:Int):=wrap_u64 au au;have wx1:IntKind.u64.wrap (x1:Int)=(x1:Int):=wrap_u64 au au;have wx2:IntKind.u64.wrap (x2:Int)=(x2:Int):=wrap_u64 au au;have wy1:IntKind.u64.wrap (y1:Int)=(y1:Int):=wrap_u64 au au;have wy2:IntKind.u64.wrap (y2:Int)=(y2:Int):=wrap_u64 au au;have wt1:IntKind.u64.wrap ((x0:Int) * 1000000000)=((x0 * 1000000000:Nat):Int):=by rw[wrap_u64 au au];omega
 have wt2:IntKind.u64.wrap (((x0 * 1000000000:Nat):Int)+(x1:Int))=(top:Int):=by rw[wrap_u64 au au];omega
 have hquo:=nO (.p .int) (t:=top) (d:=y1) au hy1p;have hrm:=xJ (.p .int) (t:=top) (d:=y1) hy1p;have hdm:top / y1 * y1+top % y1=top:=by rw[Bi];exact El top y1
 have hml:top % y1<y1:=Dj _ hy1p;have hg0:top / y1<=1000000001:=by
  have:top / y1<1000000002:=by
   rw[Ed hy1p];have:x0 * 1000000000<=y1 * 1000000000:=Ar _ hx0;omega
  omega
 generalize top / y1=g0 at hquo hdm hg0;generalize top % y1=r0 at hrm hdm hml;refine aE (jK ?_);simp only[↓stU,aG,rE,↓reduceIte,ia _ (show m+2<m+3 by omega),ia _ (show m+1<m+3 by omega),l0,l1,wn1,wx0,wx1,wt1,wt2];refine aE (jK ?_);refine ff (iv _ (show m+1<m+2 by omega)) k1 wn1 wy1 hquo hrm ?_;have hge0:q<=g0:=aNN (U:=U) (V:=V) (p:=B * P) (lu:=x2 * P+val (u.take m)) (v1:=y1) (top:=top) (r:=r0) (by rw[fU];grind) (by
   have:=Ar P (show x2+1<=B by omega);rw[Ch] at this;omega) (by
     rw[fV];have:(y1 * B+y2) * P=y1 * (B * P)+y2 * P:=by grind
     omega) hq1 hdm hml
 refine aE (bG (Q:=fun o A' S'=>o= .normal/\A'.inr=false/\∃g,aB 0 A'.F= .sl b off (m+3) cap false/\aB 1 A'.F= .sl bv 0 (m+2) (m+2) false/\aB 5 A'.F= .int .i64 ((m+2:Nat):Int)/\aB 7 A'.F= .int .u64 ((g:Nat):Int)/\g<B/\q<=g/\g * V<=U+V/\S'.h=S.h/\S.nx<=S'.nx) ?_ ?_)
 ·refine aQ (bX (aIZ S (.sl b off (m+3) cap false) (.sl bv 0 (m+2) (m+2) false) m y1 top q) ?_ g0 _ _ ⟨rfl,g0,r0,by simp,by simp,by simp,by simp,by simp,hdm,hge0,rfl,hg0,au,rfl,by simp;omega⟩);rintro k ⟨F,inr⟩ S' ⟨q0,g,r,p0,p1,p5,p7,p8,hgr,hqg,rfl,hgB,hrB,hh,hnx⟩;simp only at q0 p0 p1 p5 p7 p8;subst q0;have hgy:k * y2<=1000000001 * 999999999:=Dw hgB au;have wg:IntKind.u64.wrap ((k:Int) * (y2:Int))=((k * y2:Nat):Int):=by rw[<-Bk];exact wrap_u64 au au
  have wr:IntKind.u64.wrap ((r:Int) * 1000000000)=((r * 1000000000:Nat):Int):=by rw[wrap_u64 au au];omega
  have wr2:IntKind.u64.wrap (((r * 1000000000:Nat):Int)+(x2:Int))=((r * 1000000000+x2:Nat):Int):=by rw[wrap_u64 au au];omega
  have fin:∀ (hex:¬ (r<1000000000/\(1000000000<=k\/r * 1000000000+x2<k * y2))),k<B/\k * V<=U+V:=by
   intro hex;have hkB:k<B:=by
    rcases Bj k B with h | h
    ·exact h
    ·exfalso
     have h1:1000000000 * y1<=k * y1:=Ar _ h;have h2:x0 * 1000000000<=y1 * 1000000000:=Ar _ hx0;have:r<1000000000:=by omega
     exact hex ⟨this,.inl h⟩
   refine⟨hkB,aOb (lu:=val (u.take m)) (lv:=val (lv.take m)) (c:=B) (v1:=y1) (v2:=y2) (u2:=x2) (p:=P) (r:=r) fU fV lV hgr au hy1p ?_⟩;rcases Bj r B with h | h
   ·rcases Bj (r * 1000000000+x2) (k * y2) with h2 | h2
    ·exact absurd ⟨h,.inr h2⟩ hex
    ·exact h2
   ·have h1:k * y2<=B * B:=Dw au au;have h2:B * B<=r * B:=Ar _ h;omega
  have step:∀ (h:r<1000000000/\(1000000000<=k\/r * 1000000000+x2<k * y2)),q<k:=by
   rintro⟨_,h | h⟩
   ·omega
   ·exact aOk (lu:=val (u.take m)) (c:=B) (v1:=y1) (v2:=y2) (u2:=x2) (p:=P) (r:=r) fU lU au hq1 hgr hqg h
  refine aE (aE (jK ?_));have iy:=iv _ (show m<m+2 by omega);have ix:=ia _ (show m<m+3 by omega);have iy1:=iv _ (show m+1<m+2 by omega);have out:∀ (hex:¬ (r<1000000000/\(1000000000<=k\/r * 1000000000+x2<k * y2))) (F':Fr) (S'':St),aB 0 F'= .sl b off (m+3) cap false->aB 1 F'= .sl bv 0 (m+2) (m+2) false->aB 5 F'= .int .i64 ((m+2:Nat):Int)->aB 7 F'= .int .u64 ((k:Nat):Int)->aB 74 F'= .bool false->S''.h=S.h->S.nx<=S''.nx->
    nD fns (.cond (.t 74) .skip (.exit 0)) ⟨F',false⟩ S'' (aBw fns (.block 1 (.seq (.reg [mt 75 7,oq 76 (bi .sub (.t 75) (.c (.int .u64 1))),mt 7 76])
     (.reg [mt 77 8,mt 78 1,mt 79 5,oq 80 (bi .sub (.t 79) (.c (.int .i64 1))),oq 81 (.cq (.slice 1) (.t 78) (.t 80)),oq 82 (ld 81),oq 83 (.conv (.int .u64) (.t 82)),oq 84 (bi .add (.t 77) (.t 83)),mt 8 84])))
     (aBW (aIZ S (.sl b off (m+3) cap false) (.sl bv 0 (m+2) (m+2) false) m y1 top q) k (xB 0 fun o A' S'=>o= .normal/\A'.inr=false/\∃g,aB 0 A'.F= .sl b off (m+3) cap false/\aB 1 A'.F= .sl bv 0 (m+2) (m+2) false/\aB 5 A'.F= .int .i64 ((m+2:Nat):Int)/\aB 7 A'.F= .int .u64 ((g:Nat):Int)/\g<B/\q<=g/\g * V<=U+V/\S'.h=S.h/\S.nx<=S'.nx))):=by
   intro hex F' S'' t0 t1 t5 t7 t74 s1 s2;refine aO (by rw[fB,t74]) (bS ?_);refine aj ?_;exact⟨k,t0,t1,t5,t7,(fin hex).1,hqg,(fin hex).2,s1,s2⟩
  have inn:∀ (hex:r<1000000000/\(1000000000<=k\/r * 1000000000+x2<k * y2)) (F':Fr) (S'':St),aB 0 F'= .sl b off (m+3) cap false->aB 1 F'= .sl bv 0 (m+2) (m+2) false->aB 5 F'= .int .i64 ((m+2:Nat):Int)->aB 7 F'= .int .u64 ((k:Nat):Int)->aB 8 F'= .int .u64 ((r:Nat):Int)->aB 74 F'= .bool true->S''.h=S.h->S.nx<=S''.nx->
    nD fns (.cond (.t 74) .skip (.exit 0)) ⟨F',false⟩ S'' (aBw fns (.block 1 (.seq (.reg [mt 75 7,oq 76 (bi .sub (.t 75) (.c (.int .u64 1))),mt 7 76])
     (.reg [mt 77 8,mt 78 1,mt 79 5,oq 80 (bi .sub (.t 79) (.c (.int .i64 1))),oq 81 (.cq (.slice 1) (.t 78) (.t 80)),oq 82 (ld 81),oq 83 (.conv (.int .u64) (.t 82)),oq 84 (bi .add (.t 77) (.t 83)),mt 8 84])))
     (aBW (aIZ S (.sl b off (m+3) cap false) (.sl bv 0 (m+2) (m+2) false) m y1 top q) k (xB 0 fun o A' S'=>o= .normal/\A'.inr=false/\∃g,aB 0 A'.F= .sl b off (m+3) cap false/\aB 1 A'.F= .sl bv 0 (m+2) (m+2) false/\aB 5 A'.F= .int .i64 ((m+2:Nat):Int)/\aB 7 A'.F= .int .u64 ((g:Nat):Int)/\g<B/\q<=g/\g * V<=U+V/\S'.h=S.h/\S.nx<=S'.nx))):=by
   intro hex F' S'' t0 t1 t5 t7 t8 t74 s1 s2;have hk:=step hex;refine aP (by rw[fB,t74]) (aJ ?_);refine aj ?_;have wk:IntKind.u64.wrap ((k:Int) - 1)=((k - 1:Nat):Int):=by rw[wrap_u64 au au];omega
   have wr3:IntKind.u64.wrap ((r:Int)+(y1:Int))=((r+y1:Nat):Int):=by rw[wrap_u64 au au];omega
   refine aQ (aE (aM ?_));refine eo t7 wk ?_;refine aM ?_;simp only[↓stU,aG,rE,↓reduceIte,t1,t5,t8,wn1,iy1,s1,k1,wy1,wr3];have hky:(k - 1) * y1+(r+y1)=top:=by
    have:k * y1=(k - 1) * y1+y1:=by
     obtain⟨j,rfl⟩:∃j,k=j+1:=⟨k - 1,au⟩;rw[Er,Ch];omega
    omega
   exact⟨k - 1,au,rfl,k - 1,r+y1,by simp [t0],by simp [t1],am t5,ak,ak,hky,au,rfl,au,au,s1,s2⟩
  by_cases c1:r<1000000000
  ·have d1:decide ((r:Int)<1000000000)=true:=Ac au;by_cases c2:1000000000<=k
   ·have d2:decide ((1000000000:Int)<=(k:Int))=true:=Ac au;refine eu p7 p8 d1 d2 ?_;exact inn ⟨c1,.inl c2⟩ _ _ (by simp [p0]) (by simp [p1]) (am p5) (am p7) (am p8) (ak) hh (by simp;omega)
   ·have d2:decide ((1000000000:Int)<=(k:Int))=false:=Aa au;by_cases c3:r * 1000000000+x2<k * y2
    ·have d3:decide (((r * 1000000000+x2:Nat):Int)<((k * y2:Nat):Int))=true:=Ac (Int.ofNat_lt.2 c3);simp only[↓stU,aG,rE,↓reduceIte,p0,p1,p5,p7,p8,d1,d2,wn2,iy,ix,hh,k2,l2,wy2,wx2,wg,wr,wr2,d3];exact inn ⟨c1,.inr c3⟩ _ _ (by simp [p0]) (by simp [p1]) (am p5) (am p7) (am p8) (ak) rfl (by simp;omega)
    ·have d3:decide (((r * 1000000000+x2:Nat):Int)<((k * y2:Nat):Int))=false:=Aa (fun h=>c3 (Int.ofNat_lt.1 h));simp only[↓stU,aG,rE,↓reduceIte,p0,p1,p5,p7,p8,d1,d2,wn2,iy,ix,hh,k2,l2,wy2,wx2,wg,wr,wr2,d3];exact out au _ _ (by simp [p0]) (by simp [p1]) (am p5) (am p7) (ak) rfl (by simp;omega)
  ·have d1:decide ((r:Int)<1000000000)=false:=Aa au;refine eo p8 d1 ?_;exact out au _ _ (by simp [p0]) (by simp [p1]) (am p5) (am p7) (ak) hh (by simp;omega)
 rintro o ⟨F,inr⟩ S1 ⟨rfl,q0,g,p0,p1,p5,p7,hgB,hqg,hgV,hh,hnx⟩;simp only at q0 p0 p1 p5 p7;subst q0;refine aj ?_;have hlu:u.length=m+3:=hu;have dok:=fun(ul cr:Nat) (hul:ul<P * B * B) (hi:ul+g * V=val (u.take (m+2))+cr * (P * B * B))=>aPh (U:=U) (V:=V) (q:=q) (g:=g) (ul:=ul) (uo:=val (u.take (m+2))) (x:=x0) (cr:=cr) (P:=P * B * B) (by rw[<-hU,eU0,ep2,Bi x0]) hq1 hq2 lVn hqg hgV hi hul;refine bK (aj ?_);refine aE (bG (Q:=fun o A' S'=>o= .normal/\A'.inr=false/\∃ (d:bt) (c:Nat),d.length=m+2/\aB 0 A'.F= .sl b off (m+3) cap false/\aB 1 A'.F= .sl bv 0 (m+2) (m+2) false/\aB 5 A'.F= .int .i64 ((m+2:Nat):Int)/\aB 7 A'.F= .int .u64 ((g:Nat):Int)/\aB 9 A'.F= .int .u64 ((c:Nat):Int)/\
   cB b S S'/\S'.h.get b=some (.cells (cC (p++(d++ [x0])++w)) false 0)/\cK d/\c<B/\val d+g * V=val (u.take (m+2))+c * (P * B * B)) ?_ ?_)
 ·refine bK (eo p1 hlv ?_);refine aQ (bX (aSm b off S (.sl bv 0 (m+2) (m+2) false) m g p u w lv (.sl b off (m+3) cap false)) ?_ (m+2) _ _ ⟨rfl,0,[],0,au,rfl,by simp [p0],by simp [p1],am p5,am p7,by simp,by simp,ak,by simp,⟨hnx,fun c _ _=>by rw[hh]⟩,(by show S1.h.get b=_;rw[hh,hblk];simp),cK.nil,jB,by simp [dV]⟩);rintro k ⟨F,inr⟩ S2 ⟨q0,i,d,c,hik,hd,p0,p1,p5,p7,p9,p85,p86,p87,hS,hb2,hds,hcB,hinv⟩;simp only at q0 p0 p1 p5 p7 p9 p85 p86 p87;subst q0;have hv':S2.h.get bv=some (.cells (cC lv) false 0):=by rw[hS.2 bv hbv hne];exact hv
  refine bK ?_;by_cases hi:i<m+2
  ·have d1:decide ((i:Int)<((m+2:Nat):Int))=true:=Ac au;refine er p86 p87 d1 ?_;refine aE (aP (ak) (aJ ?_));refine aj ?_;have hul:i<(d++u.drop i).length:=by simp;omega
   have ldy:dJ (.ptr bv (0+i * 1)) false 1 S2.h=some (.int .u32 ((lv[i]?.getD 0:Nat):Int)):=by rw[Bt,Ao];exact aCC hv' au
   have ldx:dJ (.ptr b (off+i * 1)) false 1 S2.h=some (.int .u32 ((u[i]?.getD 0:Nat):Int)):=by
    rw[Bt];have:=aCC hb2 (vO hp hul);rw[aCU hp hul] at this;rw[this];congr 4;rw[Aq au,hd,Ef,Fi];rfl
   have hst:=fun x=>aA7 (w:=x) hb2 (vO hp hul);have hy:=getD_lt hvs i;have hx:=getD_lt hus i;have etv:=dU lv i;have etu:=dU u i;generalize lv[i]?.getD 0=y at *;generalize u[i]?.getD 0=x at *;have hgy:g * y<=999999999 * 999999999:=Dw au au;have w1:IntKind.u64.wrap (y:Int)=(y:Int):=wrap_u64 au au;have w2:IntKind.u64.wrap ((g:Int) * (y:Int))=((g * y:Nat):Int):=by rw[<-Bk];exact wrap_u64 au au
   have w3:IntKind.u64.wrap (((g * y:Nat):Int)+(c:Int))=((g * y+c:Nat):Int):=by rw[wrap_u64 au au];omega
   obtain⟨t,ht⟩:∃t,g * y+c=t:=⟨_,rfl⟩;rw[ht] at w3;have hquo:=aNc (.p .int) (t:=t) au;have hrem2:=aRS (.p .int) t;have hdm2:t / B * B+t % B=t:=by rw[Bi];exact El t B
   have hmod:t % B<1000000000:=Dj t jB;have hqB2:t / B<B:=by rw[Ed jB,hB];omega
   generalize t / B=tq at hquo hdm2 hqB2;generalize t % B=tr at hrem2 hdm2 hmod;have w4:IntKind.i64.wrap (x:Int)=(x:Int):=wrap_i64 au au;have w5:IntKind.i64.wrap (tr:Int)=(tr:Int):=wrap_i64 au au;have w6:IntKind.i64.wrap ((x:Int) - (tr:Int))=(x:Int) - (tr:Int):=wrap_i64 au au;refine aE (aQ (aE (aM ?_)));refine eu p85 p87 (iv i hi) ldy ?_;refine bK (fa p7 p9 w1 w2 w3 ?_);refine bK (ek hquo ?_);refine bK (fg p0 (ia i au) ldx hrem2 w4 w5 w6 ?_);refine aE (bG (Q:=fun o A' S''=>o= .normal/\S''=S2/\A'.inr=false/\∃ (left c':Nat),left+tr+tq * B=x+c' * B/\left<B/\c'<B/\aB 0 A'.F= .sl b off (m+3) cap false/\aB 1 A'.F= .sl bv 0 (m+2) (m+2) false/\aB 5 A'.F= .int .i64 ((m+2:Nat):Int)/\aB 7 A'.F= .int .u64 ((g:Nat):Int)/\aB 9 A'.F= .int .u64 ((c':Nat):Int)/\aB 10 A'.F= .int .i64 (i:Int)/\aB 13 A'.F= .int .i64 (left:Int)/\aB 85 A'.F= .sl bv 0 (m+2) (m+2) false/\aB 86 A'.F= .int .i64 ((m+2:Nat):Int)/\aB 87 A'.F= .int .i64 (i:Int)) ?_ ?_)
   ·refine bK ?_;by_cases hneg:(x:Int) - (tr:Int)<0
    ·have d2:decide ((x:Int) - (tr:Int)<0)=true:=Ac hneg;have w7:IntKind.i64.wrap ((x:Int) - (tr:Int)+1000000000)=((x+1000000000 - tr:Nat):Int):=by rw[wrap_i64 au au];omega
     have w8:IntKind.u64.wrap ((tq:Int)+1)=((tq+1:Nat):Int):=by rw[wrap_u64 au au];omega
     refine ek d2 ?_;refine aP (ak) ?_;refine bK (ek w7 ?_);refine aM (ek w8 ?_);refine⟨x+1000000000 - tr,tq+1,by rw[Ch,hB];omega,au,?_,p0,p1,p5,p7,rfl,rfl,p85,p86,p87⟩;have hcc:g * y<=999999999 * 999999999:=hgy;rw[hB] at hdm2 ⊢;omega
    ·have d2:decide ((x:Int) - (tr:Int)<0)=false:=Aa hneg;refine ek d2 ?_;refine aO (ak) (aJ ?_);refine aj ?_;exact⟨x - tr,tq,au,au,hqB2,p0,p1,p5,p7,rfl,(by congr 1;omega),p85,p86,p87⟩
   ·rintro o ⟨F,inr⟩ S'' ⟨rfl,rfl,q0,left,c',hl,hlB,hc',p0,p1,p5,p7,p9,p10,p13,p85,p86,p87⟩;simp only at q0 p0 p1 p5 p7 p9 p10 p13 p85 p86 p87;subst q0;refine aj ?_;have w9:IntKind.u32.wrap (left:Int)=(left:Int):=wrap_u32 au au;have hst:=hst left;have hset:(p++(d++u.drop i)++w).set (off+i) left=p++(d++ [left]++u.drop (i+1))++w:=by
     rw[aGZ hp hul];have:=set_mid (d:=d) (u:=u) (w:=left) au;rw[hd] at this;rw[this]
    rw[hset] at hst;refine aM (fa p0 p10 p13 w9 (ia i au) ?_);refine fK (fun call=>by refine er @dW @cN @Bt ?_;exact hst) ?_;refine aj ?_;refine aM ?_;have w10:=dk i
    refine eo p87 w10 ?_;refine⟨k - 1,au,rfl,i+1,d++ [left],c',au,by simp [hd],am p0,am p1,am p5,am p7,am p9,am p85,am p86,ak,hS.put _,?_,cK.append.2 ⟨hds,fun z hz=>?_⟩,hc',?_⟩
    ·simp only;rw[dq,if_pos rfl]
    ·have:z=left:=by simpa using hz
     rw[this];exact hlB
    ·rw[iO,hd,etu,etv,Cy];exact aLu hinv ht.symm hdm2 hl
  ·have e:i=m+2:=by omega
   subst e;have d1:decide (((m+2:Nat):Int)<((m+2:Nat):Int))=false:=Aa au;refine er p86 p87 d1 ?_;refine aE (aO (ak) (bS ?_));refine aj ?_;rw[hdr] at hb2;rw[Ay au,hV,ep2] at hinv;exact⟨d,c,hd,p0,p1,p5,p7,p9,hS,hb2,hds,hcB,hinv⟩
 rintro o ⟨F,inr⟩ S2 ⟨rfl,q0,d,c,hd,p0,p1,p5,p7,p9,hS,hb2,hds,hcB,hinv⟩;simp only at q0 p0 p1 p5 p7 p9;subst q0;refine aj ?_;have hv':S2.h.get bv=some (.cells (cC lv) false 0):=by rw[hS.2 bv hbv hne];exact hv
 have hdP:val d<P * B * B:=by have:=iA hds;rwa [hd,ep2] at this
 have⟨ok1,ok2⟩:=dok (val d) c hdP hinv;have hul:m+2<(d++ [x0]).length:=by simp;omega
 have ldx:dJ (.ptr b (off+(m+2) * 1)) false 1 S2.h=some (.int .u32 ((x0:Nat):Int)):=by
  rw[Bt];have:=aCC hb2 (vO hp hul);rw[aCU hp hul] at this;rw[this];congr 4;rw[Aq au,hd,Ef];rfl
 refine aE (bG (Q:=fun o A' S'=>o= .normal/\A'.inr=false/\∃ (d':bt),d'.length=m+2/\aB 0 A'.F= .sl b off (m+3) cap false/\aB 5 A'.F= .int .i64 ((m+2:Nat):Int)/\aB 7 A'.F= .int .u64 ((q:Nat):Int)/\
   cB b S S'/\S'.h.get b=some (.cells (cC (p++(d'++ [x0])++w)) false 0)/\cK d'/\val d'=U - q * V) ?_ ?_)
 ·refine bK ?_;by_cases hxc:x0<c
  ·have d1:decide ((x0:Int)<(c:Int))=true:=Ac au;have⟨hg,hun⟩:=ok1 hxc;have wg:IntKind.u64.wrap ((g:Int) - 1)=((q:Nat):Int):=by rw[wrap_u64 au au];omega
   refine fg p0 p5 p9 (ia _ (show m+2<m+3 by omega)) ldx wx0 d1 ?_;refine aP (ak) ?_;refine bK (eo p7 wg ?_);refine bK (aj ?_);refine bK (eo p1 hlv ?_);have hdt:(d++ [x0]).take (m+2)=d:=by rw[<-hd,List.take_left' rfl]
   refine aQ (bX (aSn b off S (.sl bv 0 (m+2) (m+2) false) m q p (d++ [x0]) w lv (.sl b off (m+3) cap false)) ?_ (m+2) _ _ ⟨rfl,0,[],0,au,rfl,am p0,am p5,ak,ak,ak,ak,ak,hS,hb2,cK.nil,au,by simp [dV]⟩);rintro k ⟨F,inr⟩ S3 ⟨q0,i,e,cc,hik,he,p0,p5,p7,p14,p130,p131,p132,hS3,hb3,hes,hcc,hinv3⟩;simp only at q0 p0 p5 p7 p14 p130 p131 p132;subst q0;have hv3:S3.h.get bv=some (.cells (cC lv) false 0):=by rw[hS3.2 bv hbv hne];exact hv
   refine bK ?_;by_cases hi:i<m+2
   ·have d1:decide ((i:Int)<((m+2:Nat):Int))=true:=Ac au;refine er p131 p132 d1 ?_;refine aE (aP (ak) (aJ ?_));refine aj ?_;have hul3:i<(e++(d++ [x0]).drop i).length:=by simp;omega
    have ldy:dJ (.ptr bv (0+i * 1)) false 1 S3.h=some (.int .u32 ((lv[i]?.getD 0:Nat):Int)):=by rw[Bt,Ao];exact aCC hv3 au
    have ldx:dJ (.ptr b (off+i * 1)) false 1 S3.h=some (.int .u32 (((d++ [x0])[i]?.getD 0:Nat):Int)):=by
     rw[Bt];have:=aCC hb3 (vO hp hul3);rw[aCU hp hul3] at this;rw[this];congr 4;rw[Aq au,he,Ef,Fi];rfl
    have hst:=fun x=>aA7 (w:=x) hb3 (vO hp hul3);have hds0:cK (d++ [x0]):=cK.append.2 ⟨hds,yR hu0⟩;have hy:=getD_lt hvs i;have hx:=getD_lt hds0 i;have etv:=dU lv i;have etu:=dU (d++ [x0]) i;generalize lv[i]?.getD 0=y at *;generalize (d++ [x0])[i]?.getD 0=x at *;have w1:IntKind.u32.wrap ((x:Int)+(y:Int))=((x+y:Nat):Int):=by rw[wrap_u32 au au];omega
    have w2:IntKind.u32.wrap (((x+y:Nat):Int)+(cc:Int))=((x+y+cc:Nat):Int):=by rw[wrap_u32 au au];omega
    refine aE (aQ (aE (aM ?_)));refine eu p130 p132 (iv i hi) ldy ?_;refine bK (ff p0 p14 (ia i au) ldx w1 w2 ?_);refine bK (aj ?_);refine aE (bG (Q:=fun o A' S''=>o= .normal/\S''=S3/\A'.inr=false/\∃ (left c':Nat),left+c' * B=x+y+cc/\left<B/\c'<=1/\aB 0 A'.F= .sl b off (m+3) cap false/\aB 5 A'.F= .int .i64 ((m+2:Nat):Int)/\aB 7 A'.F= .int .u64 ((q:Nat):Int)/\aB 14 A'.F= .int .u32 ((c':Nat):Int)/\aB 15 A'.F= .int .i64 (i:Int)/\aB 17 A'.F= .int .u32 (left:Int)/\aB 130 A'.F= .sl bv 0 (m+2) (m+2) false/\aB 131 A'.F= .int .i64 ((m+2:Nat):Int)/\aB 132 A'.F= .int .i64 (i:Int)) ?_ ?_)
    ·refine bK ?_;by_cases hge:1000000000<=x+y+cc
     ·have d2:decide ((1000000000:Int)<=((x+y+cc:Nat):Int))=true:=Ac au;have w7:IntKind.u32.wrap (((x+y+cc:Nat):Int) - 1000000000)=((x+y+cc - 1000000000:Nat):Int):=by rw[wrap_u32 au au];omega
      refine ek d2 ?_;refine aP (ak) ?_;refine bK (ek w7 ?_);refine aM (aj ?_);exact⟨x+y+cc - 1000000000,1,au,au,au,p0,p5,p7,rfl,rfl,p130,p131,p132⟩
     ·have d2:decide ((1000000000:Int)<=((x+y+cc:Nat):Int))=false:=Aa au;refine ek d2 ?_;refine aO (ak) (aJ ?_);refine aj ?_;exact⟨x+y+cc,0,au,au,au,p0,p5,p7,rfl,rfl,p130,p131,p132⟩
    ·rintro o ⟨F,inr⟩ S'' ⟨rfl,rfl,q0,left,c',hl,hlB,hc',p0,p5,p7,p14,p15,p17,p130,p131,p132⟩;simp only at q0 p0 p5 p7 p14 p15 p17 p130 p131 p132;subst q0;refine aj ?_;have hst:=hst left;have hset:(p++(e++(d++ [x0]).drop i)++w).set (off+i) left=p++(e++ [left]++(d++ [x0]).drop (i+1))++w:=by
      rw[aGZ hp hul3];have:=set_mid (d:=e) (u:=d++ [x0]) (w:=left) (by simp;omega);rw[he] at this;rw[this]
     rw[hset] at hst;refine aM (eu p0 p15 p17 (ia i au) ?_);refine fK (fun call=>by refine er @dW @cN @Bt ?_;exact hst) ?_;refine aj ?_;refine aM ?_;have w10:=dk i
     refine eo p132 w10 ?_;refine⟨k - 1,au,rfl,i+1,e++ [left],c',au,by simp [he],am p0,am p5,am p7,am p14,am p130,am p131,ak,hS3.put _,?_,cK.append.2 ⟨hes,fun z hz=>?_⟩,hc',?_⟩
     ·simp only;rw[dq,if_pos rfl]
     ·have:z=left:=by simpa using hz
      rw[this];exact hlB
     ·rw[iO,he,etu,etv,Cy];exact aMP hinv3 hl
   ·have ei:i=m+2:=by omega
    subst ei;have d1:decide (((m+2:Nat):Int)<((m+2:Nat):Int))=false:=Aa au;refine er p131 p132 d1 ?_;refine aE (aO (ak) (bS ?_));refine aj ?_;have hdr2:(d++ [x0]).drop (m+2)= [x0]:=by rw[<-hd,List.drop_left' rfl]
    rw[hdr2] at hb3;rw[hdt,Ay au,hV,ep2] at hinv3;have heP:val e<P * B * B:=by have:=iA hes;rwa [he,ep2] at this
    exact⟨e,he,p0,p5,p7,hS3,hb3,hes,hun (val e) cc heP hinv3⟩
  ·have d1:decide ((x0:Int)<(c:Int))=false:=Aa au;have⟨hg,hun⟩:=ok2 hxc;refine fg p0 p5 p9 (ia _ (show m+2<m+3 by omega)) ldx wx0 d1 ?_;refine aO (ak) (aJ ?_);refine aj ?_;subst hg;exact⟨d,hd,p0,p5,p7,hS,hb2,hds,hun⟩
 ·rintro o ⟨F,inr⟩ S3 ⟨rfl,q0,e,he,p0,p5,p7,hS3,hb3,hes,hval⟩;simp only at q0 p0 p5 p7;subst q0;refine aj ?_;have hul3:m+2<(e++ [x0]).length:=by simp;omega
  have hst:=aA7 (w:=0) hb3 (vO hp hul3);have hset:(p++(e++ [x0])++w).set (off+(m+2)) 0=p++(e++ [0])++w:=by
   rw[aGZ hp hul3,<-he,Hh,if_neg au,Ef];rfl
  rw[hset] at hst;refine bK ?_;refine er p0 p5 (ia _ (show m+2<m+3 by omega)) ?_;refine fK (fun call=>by refine er @dW @cN @Bt ?_;exact hst) ?_;refine aj ?_;have w11:IntKind.u32.wrap (q:Int)=(q:Int):=wrap_u32 au au;refine bK (eo p7 w11 ?_);refine aK (aj ?_);exact⟨hqB,e,he,(by rw[dq,if_pos rfl]),hes,hval,hS3.put _⟩
theorem tU(a:AV)(l:bo):mW (.tup (a::l)) 0=some a:=rfl
theorem tP(a b:AV)(l:bo):mW (.tup (a::b::l)) 1=some b:=rfl
theorem ex2(a b c:AV)(l:bo):mW (.tup (a::b::c::l)) 2=some c:=rfl
theorem aKg{S:St}:dG S .ce 0:=⟨[],.inl ⟨rfl,.inl rfl⟩,uE,rfl⟩
theorem aQD{b off n cap i k:Nat}{F:Fr}{x y:cP}(hx:dS (x.val F)=some i)(hy:dS (y.val F)=some k)(h1:i<=k)(h2:k<=cap)(h3:i<cap):oS (.slice 1) (.sl b off n cap false) (some x) (some y) none F=some (.sl b (off+i * 1) (k - i) (cap - i) false):=by
 have e1:Nat.ble cap cap=true:=Ah (Af _);have e2:Nat.ble k cap=true:=Ah h2;have e3:Nat.ble i k=true:=Ah h1;have e4:Nat.beq cap i=false:=by rw[Ca];intro h;rw[Az] at h;omega
 simp only[oS,aDR,jP,iU,aH,hx,hy,e1,e2,e3,aN,e4,aR]
theorem aLy{t:Nat}(ht:0<t)(htB:t<B):0<B / (t+1)/\B / (t+1) * (t+1)<=B/\B<=2 * (B / (t+1) * t)/\B / (t+1)<=500000000:=by
 have h1:0<B / (t+1):=Hd au au;have h2:B / (t+1) * (t+1)<=B:=Nat.div_mul_le_self ..;have h3:B<(t+1) * (B / (t+1)+1):=Nat.lt_mul_div_succ B au;have hB:B=1000000000:=rfl;generalize B / (t+1)=f at *;refine⟨h1,h2,?_,?_⟩
 ·rcases Bj f 2 with h | h
  ·have:f=1:=by omega
   subst this;omega
  ·rcases Bj t 2 with h4 | h4
   ·have:t=1:=by omega
    subst this;omega
   ·obtain⟨g,rfl⟩:∃g,f=g+2:=⟨f - 2,au⟩;obtain⟨s,rfl⟩:∃s,t=s+2:=⟨t - 2,au⟩;have e1:(s+2+1) * (g+2+1)=s * g+3 * s+3 * g+9:=by grind
    have e2:2 * ((g+2) * (s+2))=2 * (s * g)+4 * s+4 * g+8:=by grind
    rw[e1] at h3;rw[e2];generalize s * g=z at *;omega
 ·have:f * 2<=f * (t+1):=Bh _ au;omega
theorem aQq{x y f q r:Nat}(hf:0<f)(h:x * f=q * (y * f)+r)(hr:r<y * f):q=x / y/\r / f=x % y:=by
 have e1:x * f / (y * f)=q:=by
  rw[h,Fv,Nat.add_mul_div_right _ _ au,Nat.div_eq_of_lt hr];omega
 have e2:x * f % (y * f)=r:=by rw[h,Fv,Gm,Ec hr]
 rw[Nat.mul_div_mul_right _ _ hf] at e1;rw[Nat.mul_mod_mul_right] at e2;refine⟨e1.symm,?_⟩;rw[<-e2,Nat.mul_div_cancel _ hf]
def aSE(S:St)(bu bv bq:Nat)(u lv:bt)(size m f V:Nat)(k:Nat)(A:bN)(S':St):Prop:=
 A.inr=false/\∃ (r z qs:bt),k+(m+2)<=size/\r.length=m+2/\k+(m+2)+z.length=size/\qs.length+k+(m+2)=size/\aB 4 A.F= .sl bq 0 (size - (m+2)) (size - (m+2)) false/\aB 8 A.F= .int .i64 ((m+2:Nat):Int)/\aB 9 A.F= .int .u64 ((f:Nat):Int)/\aB 10 A.F= .sl bu 0 size size false/\aB 11 A.F= .sl bv 0 (m+2) (m+2) false/\aB 12 A.F= .int .i64 ((k:Int) - 1)/\
  Same S S'/\bu<S'.nx/\bv<S'.nx/\bq<S'.nx/\S'.h.get bu=some (.cells (cC (u.take k++r++z)) false 0)/\S'.h.get bv=some (.cells (cC lv) false 0)/\S'.h.get bq=some (.cells (cC (List.replicate k 0++qs)) false 0)/\cK r/\cK qs/\val r<V/\val (u.drop k)=val qs * V+val r
theorem aKk{x y:Nat}:decide (aER x y<0)=decide (x<y):=by
 unfold aER;split<;>(try split)<;>simp_all<;>omega
theorem aDG{S:St}{a b:AV}{x y:Nat}(H:Has fns)(ha:dG S a x)(hb:dG S b y)(hx:Fits x)(hy0:0<y):
  eT fns (.fn 121 [] []) [a,b] S fun r S'=>∃qv rv,r= .tup [qv,rv]/\dG S' qv (x / y)/\dG S' rv (x % y)/\Same S S':=by
 have hB:B=1000000000:=rfl;refine bL H.f121 (by simp) ?_;refine aj ?_;refine bK (aj ?_);refine fA (aj ?_);refine aL (aj ?_);refine aF (aEt H.f118 ha hb hx) ?_;rintro _ S1 ⟨rfl,hS1⟩;refine ek @aKk ?_;by_cases hlt:x<y
 ·refine aP (by simp only[↓stU,aG,rE,↓reduceIte,Ac hlt]) ?_;refine bK (aj ?_);refine aL (aj ?_);refine aF (oG H.f101 (ha.same hS1) hx) ?_;rintro rv S2 ⟨hr,hS2⟩;try refine aj ?_
  refine aK (aj ?_);rw[Nat.div_eq_of_lt hlt,Ec hlt];exact⟨.ce,rv,rfl,aKg,hr,hS1.trans hS2⟩
 refine aO (by simp only[↓stU,aG,rE,↓reduceIte,Aa hlt]) (aJ ?_);refine aj ?_;have hge:y<=x:=by omega
 obtain⟨l,ha0,hl,rfl⟩:=ha;obtain⟨n,hb0,hn,rfl⟩:=hb;have ha:=ha0.same hS1;have hb:=hb0.same hS1;have hlen:=Fits.len hl hx;have hn0:n≠ []:=by rintro rfl;simp [dV] at hy0
 have hnl:n.length<=l.length:=by
  rcases Bj l.length n.length with h | h
  ·have:=gK hl.1 hn h;omega
  ·exact h
 have hnp:0<n.length:=Ep.2 hn0;refine fA (ek hb.len ?_);by_cases h1:n.length=1
 ·obtain⟨b0,rfl⟩:=De.1 h1;have d1:decide ((([b0].length:Nat):Int)=1)=true:=rfl;refine aP (am d1) ?_;have hb0B:b0<B:=hn.1 b0 (by simp);have hvb:val [b0]=b0:=by simp [eZ,dV]
  rw[hvb] at hy0 ⊢;have hld:dJ (nQ b 0) false 1 S1.h=some (.int .u32 ((b0:Nat):Int)):=by have:=hb.ld (i:=0) (by simp);simpa using this
  have hia:dT (.slice 1) b 0=some (nQ b 0):=hb.cq (i:=0) (by simp);have hnat0:dS (.int .i64 0)=some 0:=rfl;refine bK (er hnat0 hia hld ?_);refine aL (aj ?_);refine aF (aED H.f139 H.f136 ha hl.1 hlen hy0 au) ?_;rintro _ S2 ⟨qv,rfl,hq,hS2⟩;refine eo @tU @tP ?_;have hmod:val l % b0<b0:=Dj _ hy0;have w1:IntKind.u64.wrap ((val l % b0:Nat):Int)=((val l % b0:Nat):Int):=wrap_u64 au au;refine bK (ek w1 ?_);refine aL (aj ?_);refine aF (uQ H.f82 au) ?_;rintro rv S3 ⟨hr,hS3⟩;try refine aj ?_
  refine aK (aj ?_);exact⟨qv,rv,rfl,hq.same hS3,hr,hS1.trans (hS2.trans hS3)⟩
 obtain⟨m,hm⟩:∃m,n.length=m+2:=⟨n.length - 2,au⟩;have d1:decide ((n.length:Int)=1)=false:=Aa au;refine aO (am d1) (aJ ?_);refine aj ?_;have htl:=getD_lt hn.1 (m+1);have hvn:val n=val (n.take (m+1))+B ^ (m+1) * n[m+1]?.getD 0:=by
  have:=dU n (m+1);rwa [Ay au] at this
 have hlow:val (n.take (m+1))<B ^ (m+1):=by have:=iA (hn.1.take (m+1));rwa [Bq,Dm au] at this
 have htp:0<n[m+1]?.getD 0:=by
  have h2:n[m+1]? =n.getLast? :=by rw[List.getLast?_eq_getElem?];congr 1;omega
  rcases An (n[m+1]?.getD 0) with h | h
  ·exfalso
   have h3:m+1<n.length:=by omega
   rw[Ad h3] at h h2;simp at h;exact hn.2 (by rw[<-h2,h])
  ·exact h
 have hld:=hb.ld (i:=m+1) au;rw[Ae] at hld;have hia:=hb.cq (i:=m+1) au;generalize n[m+1]?.getD 0=t at *;have⟨hf0,hf1,hf2,hf3⟩:=aLy htp htl;have wn1:IntKind.i64.wrap ((n.length:Int) - 1)=((m+1:Nat):Int):=by rw[wrap_i64 au au];omega
 have wt:IntKind.u64.wrap (t:Int)=(t:Int):=wrap_u64 au au;have wt1:IntKind.u64.wrap ((t:Int)+1)=((t+1:Nat):Int):=by rw[wrap_u64 au au];omega
 have hquo:=nO (.p .int) (t:=B) (d:=t+1) au au;rw[show((B:Nat):Int)=1000000000 from rfl] at hquo;generalize B / (t+1)=f at *;refine bK (ek hb.len ?_);refine bK (ff wn1 hia hld wt wt1 hquo ?_);have wl1:IntKind.i64.wrap ((l.length:Int)+1)=((l.length+1:Nat):Int):=by rw[wrap_i64 au au];omega
 have hbig:val l * f<B ^ (l.length+1):=by
  have h2:=iA hl.1;have h3:val l * f<=val l * B:=Bh _ au;have h4:val l * B<B ^ l.length * B:=Ey h2 jB;rw[Cy];omega
 have hbign:val n * f<B ^ (m+2):=by
  have h2:val n<B ^ (m+1) * (t+1):=by rw[Cn];omega
  have h3:val n * f<B ^ (m+1) * (t+1) * f:=Ey h2 hf0;have h4:B ^ (m+1) * (f * (t+1))<=B ^ (m+1) * B:=Bh _ hf1;have e:B ^ (m+1) * (t+1) * f=B ^ (m+1) * (f * (t+1)):=by grind
  rw[Cy];omega
 refine bK (eo ha.len wl1 ?_);refine aL (aj ?_);refine aF (aD9 H.f137 ha hl.1 au au au hbig) ?_;rintro _ S2 ⟨u,rfl,hnx2,hu,hul,hus,huv,hS2⟩;try refine aj ?_
 refine bK (aj ?_);refine aL (aj ?_);refine aF (aD9 (size:=n.length) H.f137 (hb.same hS2) hn.1 au au au (by rw[hm];exact hbign)) ?_;rintro _ S3 ⟨lv,rfl,hnx3,hv,hvl,hvs,hvv,hS3⟩;try refine aj ?_
 rw[hm] at hvl;have wd:IntKind.i64.wrap ((l.length:Int) - (n.length:Int))=((l.length - n.length:Nat):Int):=by rw[wrap_i64 au au];omega
 have wd1:IntKind.i64.wrap (((l.length - n.length:Nat):Int)+1)=((l.length+1 - (m+2):Nat):Int):=by rw[wrap_i64 au au];omega
 have hmk:=fun F id (x:cP) (hx:dS (x.val F)=some (l.length+1 - (m+2)))=>oJ (t:=97) (s:=1) (bytes:=4) (z:=[AV.int .u32 0]) (l:=x) (c:=x) (F:=F) (id:=id) (n:=l.length+1 - (m+2)) hx hx ax ax;refine bK ?_;simp only[↓stU,aG,rE,↓reduceIte,ha.len,wd,wd1,↓tG];rw[hmk _ _ _ (ak)];refine aj ?_;refine fA (eo ha.len wd ?_);have hV:val lv=val n * f:=hvv;have hB1:B ^ (m+1)<=val n:=by
  have:B ^ (m+1) * 1<=B ^ (m+1) * t:=Bh _ htp;omega
 have hVp:0<val lv:=by rw[hV];exact Ew hy0 hf0
 have htopv:B<=2 * lv[m+1]?.getD 0:=by
  have e:=dU lv (m+1);rw[Ay au] at e;have h2:val (lv.take (m+1))<B ^ (m+1):=by have:=iA (hvs.take (m+1));rwa [Bq,Dm au] at this
  generalize lv[m+1]?.getD 0=s at *;have h3:f * t * B ^ (m+1)<(s+1) * B ^ (m+1):=by
   have a1:B ^ (m+1) * t * f<=val n * f:=Ar _ au;have e1:B ^ (m+1) * t * f=f * t * B ^ (m+1):=by grind
   have e2:(s+1) * B ^ (m+1)=B ^ (m+1) * s+B ^ (m+1):=by grind
   omega
  have h4:f * t<s+1:=Gk h3;omega
 obtain⟨K,hK⟩:∃K,l.length+1 - (m+2)=K:=⟨_,rfl⟩;have hKl:K+(m+2)=l.length+1:=by omega
 have hrK:val (u.drop K)<val lv:=by
  have e:val u=val (u.take K)+B ^ K * val (u.drop K):=by
   have:=val_append (u.take K) (u.drop K)
   rwa [Dl,Bq,Dm au] at this
  have h2:val l * f<B ^ l.length * f:=Ey (iA hl.1) hf0;have e2:B ^ l.length=B ^ K * B ^ (m+1):=by rw[<-Hl];congr 1;omega
  have h3:B ^ K * val (u.drop K)<B ^ K * (B ^ (m+1) * f):=by
   have:B ^ l.length * f=B ^ K * (B ^ (m+1) * f):=by rw[e2,Bl]
   omega
  have h4:=Nat.lt_of_mul_lt_mul_left h3;have h5:B ^ (m+1) * f<=val n * f:=Ar _ hB1;omega
 have e12:((l.length - n.length:Nat):Int)=(K:Int) - 1:=by omega
 have hS13:=hS1.trans (hS2.trans hS3);rw[hm] at e12;rw[hm,hK];refine bG (Q:=fun o A' S'=>o= .normal/\aSE S S1.nx S2.nx S3.nx u lv (l.length+1) m f (val lv) 0 A' S') ?_ ?_
 ·refine aQ (bX (aSE S S1.nx S2.nx S3.nx u lv (l.length+1) m f (val lv)) ?_ K _ _ ⟨rfl,u.drop K,[],[],au,by simp;omega,by simp;omega,by simp;omega,am hK,ak,ak,ak,ak,am e12,?_,?_,?_,?_,?_,?_,?_,fun z hz=>hus z (Ej hz),cK.nil,hrK,by simp [dV]⟩)
  ·rintro k ⟨F,inr⟩ S' ⟨q0,r,z,qs,hk1,hr,hz,hq,p4,p8,p9,p10,p11,p12,hS,hn1,hn2,hn3,gu,gv,gq,hrs,hqs,hrV,hinv⟩;simp only at q0 p4 p8 p9 p10 p11 p12;subst q0;refine fA ?_;cases k with
   | zero=>
    have d2:decide ((0:Int)<=((0:Nat):Int) - 1)=false:=rfl;refine ek p12 ?_;refine aO (by simp only[↓stU,aG,rE,↓reduceIte];rfl) (bS ?_);refine aj ?_;exact⟨rfl,r,z,qs,hk1,hr,hz,hq,am p4,am p8,am p9,am p10,am p11,am p12,hS,hn1,hn2,hn3,gu,gv,gq,hrs,hqs,hrV,hinv⟩
   | succ j=>
    have e12:(((j+1:Nat):Int) - 1)=(j:Int):=by omega
    rw[e12] at p12;have d2:decide ((0:Int)<=(j:Int))=true:=Ac au;refine eo p12 d2 ?_;refine aP (ak) (aJ ?_);refine aj ?_;have hj:j<u.length:=by omega
    have hxB:=getD_lt hus j;have htk:u.take (j+1)=u.take j++ [u[j]?.getD 0]:=by rw[Dh,Ad hj];rfl
    have hdk:u.drop j=u[j]?.getD 0::u.drop (j+1):=by rw[Bw hj,Ad hj];rfl
    generalize u[j]?.getD 0=x at *;rw[htk,Be (u.take j),show [x]++r=x::r from rfl] at gu;have wj1:IntKind.i64.wrap ((j:Int)+((m+2:Nat):Int))=((j+(m+2):Nat):Int):=by rw[wrap_i64 au au];omega
    have wj2:IntKind.i64.wrap (((j+(m+2):Nat):Int)+1)=((j+(m+3):Nat):Int):=by rw[wrap_i64 au au];omega
    have hslc:=fun(F:Fr) (a b:cP) ha hb=>aQD (b:=S1.nx) (off:=0) (n:=l.length+1) (cap:=l.length+1) (i:=j) (k:=j+(m+3)) (F:=F) (x:=a) (y:=b) ha hb au au au;have e3:j+(m+3) - j=m+3:=by omega
    rw[e3] at hslc;refine aE (aQ (aM ?_));refine fg p4 p8 p10 p11 p12 wj1 wj2 ?_;rw[hslc _ _ _ (ak) (ak)];refine er p4 p11 p12 ?_;refine aL (aj ?_);have hwin:val (x::r)<val lv * B:=by
     rw[eZ];have:B * (val r+1)<=B * val lv:=Bh _ hrV;rw[Cn] at this;have e:=Bi B (val lv);omega
    refine aF (aI0 (S:=S') (b:=S1.nx) (off:=0+j * 1) (m:=m) (cap:=l.length+1 - j) (bv:=S2.nx) (p:=u.take j) (u:=x::r) (w:=z) (lv:=lv) H.f138 gu gv au hn2 hvl (by simp [hr]) (by simp;omega) au (cK.cons.2 ⟨hxB,hrs⟩) hvs htopv hwin) ?_;rintro _ S4 ⟨rfl,hqd,d,hd,gu4,hds,hdv,hS4⟩;have gq4:S4.h.get S3.nx=some (.cells (cC (List.replicate (j+1) 0++qs)) false 0):=by rw[hS4.2 _ hn3 au];exact gq
    have gv4:S4.h.get S2.nx=some (.cells (cC lv) false 0):=by rw[hS4.2 _ hn2 au];exact gv
    have hdm:val (x::r) / val lv * val lv+val (x::r) % val lv=val (x::r):=by rw[Bi];exact El ..
    have hml:val (x::r) % val lv<val lv:=Dj _ hVp;rw[<-hdv] at hdm hml;generalize val (x::r) / val lv=dg at *;have hia:dT (.slice 1) (.sl S3.nx 0 (l.length+1 - (m+2)) (l.length+1 - (m+2)) false) j=some (.ptr S3.nx j):=by rw[lY au];simp
    have hst:=aA7 (w:=dg) gq4 (p:=j) (by simp;omega);rw[aK9] at hst;refine ek hia ?_;refine fK (fun call=>by refine eo @dW @cN ?_;exact hst) ?_;refine aj ?_;refine aM ?_;have wj3:IntKind.i64.wrap ((j:Int) - 1)=(j:Int) - 1:=wrap_i64 au au;refine eo p12 wj3 ?_;have hn4:=hS4.1;have hSS:Same S S4:=hS4.same hS (aw hS1.1);refine⟨j,au,rfl,d,[0]++z,dg::qs,au,hd,by simp;omega,by simp;omega,am p4,am p8,am p9,am p10,am p11,ak,?_,by simp only;omega,by simp only;omega,by simp only;omega,?_,?_,?_,hds,cK.cons.2 ⟨hqd,hqs⟩,hml,?_⟩
    ·exact hSS.put (aw hS13.1) _
    ·simp only;rw[dq,if_neg au,gu4];simp [Be]
    ·simp only;rw[dq,if_neg au];exact gv4
    ·simp only;rw[dq,if_pos rfl]
    ·rw[hdk,eZ,eZ];refine aC7 hinv (t:=val (x::r)) ?_ hdm;rw[eZ,Bi];omega
  ·exact hS13.put (by exact hS13.1) _ |>.trans (Same.refl _) |>fun h=>⟨by have:=hS13.1;simp only;omega,h.2⟩
  ·have:=hS2.1;have:=hS3.1;simp only;omega
  ·have:=hS3.1;simp only;omega
  ·simp only;omega
  ·simp only;have:=hS2.1;have:=hS3.1;rw[dq,if_neg au,hS3.2 _ au,hu];simp
  ·simp only;rw[dq,if_neg au,hv]
  ·simp only;rw[dq,if_pos rfl,jF];simp
 ·rintro o ⟨F,inr⟩ S' ⟨rfl,q0,r,z,qs,hk1,hr,hz,hq,p4,p8,p9,p10,p11,p12,hS,hn1,hn2,hn3,gu,gv,gq,hrs,hqs,hrV,hinv⟩;simp only at q0 p4 p8 p9 p10 p11 p12;subst q0;simp only[Ha,Ck] at gu;simp only[List.replicate_zero,Ck] at gq;rw[Dn,huv,hV] at hinv;rw[hV] at hrV;have⟨hqe,hre⟩:=aQq hf0 hinv hrV;have hlu:=mF (n:=l.length+1) (o':=false) (cap:=l.length+1) gu hn1 (by simp;omega) (Af _);have hlt2:m+2<(r++z).length:=by simp;omega
  have hhd:=hlu.head hlt2;rw[show(r++z).take (m+2)=r by rw[<-hr,List.take_left' rfl]] at hhd;refine aj ?_;refine bK (eo p8 p10 ?_);rw[hlu.slc hlt2 (ak)];refine aj ?_;refine aL (aj ?_);refine aF (qR H.f139 hhd hrs au) ?_;rintro rv S5 ⟨⟨r',hr1,hr2,hr3⟩,rfl⟩;have wf:IntKind.u32.wrap (f:Int)=(f:Int):=wrap_u32 au au;have hr'l:r'.length<=100000:=by
   have h6:val r<B ^ (m+2):=by have:=iA hrs;rwa [hr] at this
   have:=aC0 (K:=m+2) hr2 (by rw[hr3];exact h6);omega
  refine eo p9 wf ?_;refine aL (aj ?_);refine aF (aED H.f139 H.f136 hr1 hr2.1 hr'l hf0 au) ?_;rintro _ S6 ⟨rq,rfl,hrq,hS6⟩;refine eo @tU @tP ?_;rw[hr3,hre] at hrq;have hq6:S6.h.get S3.nx=some (.cells (cC qs) false 0):=by rw[hS6.2 _ hn3];exact gq
  have hlq:=mF (n:=l.length+1 - (m+2)) (o':=false) (cap:=l.length+1 - (m+2)) hq6 (Ag hn3 hS6.1) au (Af _);refine bK (ek p4 ?_);refine aL (aj ?_);refine aF (qR H.f139 hlq hqs au) ?_;rintro qv S7 ⟨hqv,rfl⟩;rw[hqe] at hqv;try refine aj ?_
  refine aK (aj ?_);exact⟨qv,rq,rfl,hqv,hrq,hS.trans hS6⟩
def aST:bo:=aDU.map fun n=>AV.int .u8 ((n:Nat):Int)
def Laid(S:St):Prop:=S.h.get 0=some (.ro aST)/\True/\0<S.nx
theorem Laid.same{S S':St}(h:Laid S)(hs:Same S S'):Laid S':=by
 have⟨h1,h2,h3⟩:=h;have:=hs.1;exact⟨by rw[hs.2 _ au];exact h1,h2,au⟩
theorem aLF(e:qM){a b:Nat}(ha:a<=18446744073709551615)(hb:b<=18446744073709551615):kA .and e (.int .u64 (a:Int)) (.int .u64 (b:Int))=some (.int .u64 ((Nat.land a b:Nat):Int)):=by
 show cU .and .u64 (Int.ofNat a) .u64 (Int.ofNat b)=_;unfold cU;rw[show eX .and=false from rfl,aR,fR,aN];show bO (Nat.ble a 18446744073709551615) (bO (Nat.ble b 18446744073709551615) _ _) _=_;rw[Ah ha,Ah hb];rfl
theorem aO2(e:qM){a b:Nat}(ha:a<=18446744073709551615)(hb:b<=18446744073709551615):kA .or e (.int .u64 (a:Int)) (.int .u64 (b:Int))=some (.int .u64 ((Nat.lor a b:Nat):Int)):=by
 show cU .or .u64 (Int.ofNat a) .u64 (Int.ofNat b)=_;unfold cU;rw[show eX .or=false from rfl,aR,fR,aN];show bO (Nat.ble a 18446744073709551615) (bO (Nat.ble b 18446744073709551615) _ _) _=_;rw[Ah ha,Ah hb];rfl
theorem aCg(e:qM)(j:IntKind){a n:Nat}(hn:n<=64):kA .shr e (.int .u64 (a:Int)) (.int j (n:Int))=some (.int .u64 ((a / 2 ^ n:Nat):Int)):=by
 show cU .shr .u64 (Int.ofNat a) j (Int.ofNat n)=_;unfold cU;rw[show eX .shr=true from rfl,aN];show wY .shr .u64 (Int.ofNat a) n=_;unfold wY;rw[show Nat.ble n IntKind.u64.bits=true from Ah hn,aN];show some (AV.int .u64 (Int.fdiv (a:Int) ((2 ^ n:Nat):Int)))=_;rw[Int.fdiv_eq_ediv_of_nonneg _ (Gj _)];rfl
theorem aMI(e:qM)(j:IntKind){a n:Nat}(hn:n<=64):kA .shl e (.int .u64 (a:Int)) (.int j (n:Int))=some (.int .u64 (IntKind.u64.wrap ((a * 2 ^ n:Nat):Int))):=by
 show cU .shl .u64 (Int.ofNat a) j (Int.ofNat n)=_;unfold cU;rw[show eX .shl=true from rfl,aN];show wY .shl .u64 (Int.ofNat a) n=_;unfold wY;rw[show Nat.ble n IntKind.u64.bits=true from Ah hn,aN];show some (AV.int .u64 (aHz .u64 (Int.ofNat a) (Int.ofNat (2 ^ n))))=_;rw[aBg];rfl
theorem aGr(n:Nat):IntKind.u64.wrap (n:Int)=((n % 2 ^ 64:Nat):Int):=by
 simp [IntKind.wrap,IntKind.signed,IntKind.bits]
theorem w1g(k C:Nat):IntKind.u64.wrap (((2 ^ k:Nat):Int) * (C:Int))=((2 ^ k * C % 2 ^ 64:Nat):Int):=by
  rw[<-aGr,Bk]
theorem w1d:∀k,k<64->∃mm ix:Nat,IntKind.u64.wrap (((2 ^ k:Nat):Int) * 285870213051353865)=(mm:Int)/\mm / 2 ^ 58=ix/\aDU[ix]? =some k/\ix<64:=by
 intro k hk;have h:=w1g k 285870213051353865;have hb:=aJg k hk;have:∀mm,mm=2 ^ k * 285870213051353865 % 2 ^ 64->(aDU[mm / 2 ^ 58]? =some k)->∃mm ix:Nat,IntKind.u64.wrap (((2 ^ k:Nat):Int) * 285870213051353865)=(mm:Int)/\mm / 2 ^ 58=ix/\aDU[ix]? =some k/\ix<64:=by
  intro mm hmm hbb;rw[<-hmm] at h;exact⟨mm,mm / 2 ^ 58,h,rfl,hbb,(Ai.1 hbb).1⟩
 exact this _ rfl hb
theorem aHt{a:Nat}(ha:0<a)(ha2:a<=18446744073709551615):unV .neg (.int .u64 (a:Int))=some (.int .u64 ((2 ^ 64 - a:Nat):Int)):=by
 show some (AV.int .u64 (aFH .u64 (.ofNat 0) a))=_;rw[xM];congr 2;show IntKind.u64.wrap ((0:Int) - (a:Int))=_;simp only[IntKind.wrap,IntKind.signed,IntKind.bits,Bool.false_and,Aw,Bx];omega
theorem aF2{S:St}{x k:Nat}(H:Has fns)(hL:Laid S)(hx:x<=18446744073709551615)(hk:Tz x k):
  eT fns (.fn 133 [] []) [.int .u64 (x:Int)] S fun r S'=>r= .int .i64 (k:Int)/\S'=S:=by
 have hp:=hk.pos;have hk64:k<64:=hk.lt (n:=64) au;refine bL H.f133 (by simp) ?_;refine aj ?_;refine bK (aj ?_);refine fA ?_;have d1:decide ((x:Int)=0)=false:=Aa au;refine ek d1 ?_;refine aO (ak) (aJ ?_);refine aj ?_;have hand:=aLF (.p .int) (a:=x) (b:=2 ^ 64 - x) hx au;rw[aRv hk au] at hand;have hun:=aHt hp hx;have⟨mm,ix,w1,hmi,hb,hix⟩:=w1d k hk64;have hshr:=aCg (.p .int) .u64 (a:=mm) (n:=58) ay;rw[show((58:Nat):Int)=58 from rfl,hmi] at hshr;have hia:dT (.arr 64 1) (.ptr 0 0) ix=some (.ptr 0 ix):=by
  show bO (Nat.blt ix 64) (some (AV.ptr 0 (0+ix * 1))) none=_;rw[show Nat.blt ix 64=true from Ah hix,aN];simp
 have hld:dJ (.ptr 0 ix) false 1 S.h=some (.int .u8 (k:Int)):=by
  simp only[dJ,iQ,aR,jQ,cA,hL.1,aH,dN,jY,aST,Bz,hb,Gq]
 have w2:IntKind.i64.wrap (k:Int)=(k:Int):=wrap_i64 au au;refine bK (fg hun hand w1 hshr hia hld w2 ?_);refine aK ?_;simp only[↓stU,aG,rE,↓reduceIte]
def aUh(S:St)(s g:Nat)(k:Nat)(A:bN)(S':St):Prop:=
 A.inr=false/\S'=S/\∃a b,aB 0 A.F= .int .u64 ((a:Nat):Int)/\aB 1 A.F= .int .u64 ((b:Nat):Int)/\aB 5 A.F= .int .i64 (s:Int)/\a % 2=1/\a<=18446744073709551615/\b<=18446744073709551615/\Nat.gcd a b=g/\k=a+b
theorem sE{S:St}{x y:Nat}(H:Has fns)(hL:Laid S)(hx:x<=18446744073709551615)(hy:y<=18446744073709551615):
  eT fns (.fn 116 [] []) [.int .u64 (x:Int),.int .u64 (y:Int)] S fun r S'=>r= .int .u64 ((Nat.gcd x y:Nat):Int)/\S'=S:=by
 refine bL H.f116 (by simp) ?_;refine aj ?_;refine bK (aj ?_);refine fA (aj ?_);rcases An x with h0 | hxp
 ·subst h0;refine aP (by simp only[↓stU,aG,rE,↓reduceIte];rfl) ?_;refine bK (aj ?_);refine aK ?_;simp only[↓stU,aG,rE,↓reduceIte,Nat.gcd_zero_left]
 have d1:decide ((x:Int)=0)=false:=Aa au;refine aO (am d1) (aJ ?_);refine aj ?_;refine fA (aj ?_);rcases An y with h0 | hyp
 ·subst h0;refine aP (by simp only[↓stU,aG,rE,↓reduceIte];rfl) ?_;refine bK (aj ?_);refine aK ?_;simp only[↓stU,aG,rE,↓reduceIte,Hf]
 have d2:decide ((y:Int)=0)=false:=Aa au;refine aO (am d2) (aJ ?_);refine aj ?_;have⟨i,hi⟩:=aOr hxp;have⟨j,hj⟩:=aOr hyp;have hor:=aSk hi hj;have horl:Nat.lor x y<2 ^ 64:=Nat.or_lt_two_pow au au;have hi64:i<64:=hi.lt (n:=64) au;have hj64:j<64:=hj.lt (n:=64) au;refine bK ?_;refine ek (aO2 (.p .int) hx hy) ?_;refine aL (aj ?_);refine aF (aF2 H hL au hor) ?_;rintro _ T ⟨rfl,hT⟩;rw[hT];try refine aj ?_
 refine bK (aj ?_);refine aL (aj ?_);refine aF (aF2 H hL hx hi) ?_;rintro _ T ⟨rfl,hT⟩;rw[hT];refine ek (aCg (.p .int) .i64 (a:=x) (n:=i) au) ?_;have⟨o1,o2,o3⟩:=hi.odd;have hsp:=aLG hi hj;have hax:x / 2 ^ i<=x:=Di ..;generalize x / 2 ^ i=a at *;refine aE (bG (Q:=fun o A' S'=>o= .normal/\A'.inr=false/\S'=S/\aB 0 A'.F= .int .u64 ((Nat.gcd a y:Nat):Int)/\aB 5 A'.F= .int .i64 ((min i j:Nat):Int)) ?_ ?_)
 ·refine aQ (bX (aUh S (min i j) (Nat.gcd a y)) ?_ (a+y) _ _ ⟨rfl,rfl,a,y,ak,ak,ak,o1,au,hy,rfl,rfl⟩);rintro k ⟨F,inr⟩ S' ⟨q0,hS',a',b',p0,p1,p5,ho,ha',hb',hg,rfl⟩;simp only at q0 p0 p1 p5;subst q0;rw[hS'];refine fA (ek p1 ?_);rcases An b' with h0 | hbp
  ·subst h0;refine aO (by simp only[↓stU,aG,rE,↓reduceIte];rfl) (bS ?_);rw[Hf] at hg;subst hg;simp only[↓stU,aG,rE,↓reduceIte,p0,p5]
  have d3:decide (¬ (b':Int)=0)=true:=Ac au;refine aP (by simp only[↓stU,aG,rE,↓reduceIte,ne_eq,d3]) (aJ ?_);refine aj ?_;have⟨t,ht⟩:=aOr hbp;have ht64:t<64:=ht.lt (n:=64) au;refine aQ (aE (aM ?_));refine ek p1 ?_;refine aL (aj ?_);refine aF (aF2 H hL hb' ht) ?_;rintro _ T ⟨rfl,hT⟩;rw[hT];refine ek (aCg (.p .int) .i64 (a:=b') (n:=t) au) ?_;have⟨r1,r2,r3⟩:=ht.odd;have hgb:Nat.gcd a' (b' / 2 ^ t)=Nat.gcd a y:=by
   have:Nat.gcd a' b'=Nat.gcd a' (2 ^ t * (b' / 2 ^ t)):=by rw[<-r2]
   rw[<-hg,this,aCS ho]
  have hbx:b' / 2 ^ t<=b':=Di ..;generalize b' / 2 ^ t=c at *;refine fA (ek p0 ?_);by_cases hgt:c<a'
  ·refine aP (by simp only[↓stU,aG,rE,↓reduceIte,Ac (show(c:Int)<(a':Int) by omega)]) ?_;refine aM ?_;have w1:IntKind.u64.wrap ((a':Int) - (c:Int))=((a' - c:Nat):Int):=by rw[wrap_u64 au au];omega
   refine ek p0 ?_;refine aM (ek w1 ?_);refine⟨c+(a' - c),au,rfl,rfl,c,a' - c,ak,ak,am p5,r1,au,au,?_,rfl⟩;rw[aK4 au,Eb];exact hgb
  ·refine aO (by simp only[↓stU,aG,rE,↓reduceIte,Aa (show ¬ (c:Int)<(a':Int) by omega)]) (aJ ?_);have w1:IntKind.u64.wrap ((c:Int) - (a':Int))=((c - a':Nat):Int):=by rw[wrap_u64 au au];omega
   refine aj ?_;refine aM (eo p0 w1 ?_);refine⟨a'+(c - a'),au,rfl,rfl,a',c - a',am p0,ak,am p5,ho,au,au,?_,rfl⟩;rw[aK4 au];exact hgb
 ·rintro o ⟨F,inr⟩ S' ⟨rfl,q0,hS',p0,p5⟩;simp only at q0 p0 p5;subst q0;rw[hS'];refine aj ?_;refine bK ?_;have hle:Nat.gcd a y * 2 ^ (min i j)=Nat.gcd x y:=by rw[hsp,Bi]
  have hgle:Nat.gcd x y<=x:=Gt _ hxp;have w1:IntKind.u64.wrap ((Nat.gcd a y * 2 ^ (min i j):Nat):Int)=((Nat.gcd x y:Nat):Int):=by rw[hle];exact wrap_u64 au au
  refine eu p0 p5 (aMI (.p .int) .i64 (a:=Nat.gcd a y) (n:=min i j) au) w1 ?_;refine aK ?_;simp only[↓stU,aG,rE,↓reduceIte]
end Go.Ev.Gl
