import Derived.Test.YtiiplmagnlcpbaaGreatDoorEv8
set_option linter.unusedSimpArgs false
set_option linter.unusedVariables false
set_option maxHeartbeats 0
namespace Go.Ev.Gl
def B:Nat:=1000000000
theorem jB:0<B:=by decide
def val:bt->Nat
 | []=>0
 | x::l=>x+B * val l
def cK(l:bt):Prop:=∀x∈l,x<B
def oK(l:bt):Prop:=cK l/\l.getLast? ≠some 0
theorem dV:val []=0:=rfl
theorem eZ(x:Nat)(l:bt):val (x::l)=x+B * val l:=rfl
theorem val_append:∀ (l m:bt),val (l++m)=val l+B ^ l.length * val m
 | [],m=>by simp [dV]
 | x::l,m=>by
  simp only[Cu,eZ,val_append l m,Av,Cy,Cn];rw[Bi (B ^ l.length) B,Bl];omega
theorem iO(l:bt)(x:Nat):val (l++ [x])=val l+B ^ l.length * x:=by rw[val_append];simp [eZ,dV]
theorem cK.nil:cK []:=fun x h=>by cases h
theorem cK.cons{x:Nat}{l:bt}:cK (x::l)↔x<B/\cK l:=by simp [cK]
theorem cK.append{l m:bt}:cK (l++m)↔cK l/\cK m:=by
 unfold cK;constructor
 ·intro h;exact⟨fun x hx=>h x (by simp [hx]),fun x hx=>h x (by simp [hx])⟩
 ·rintro⟨h1,h2⟩ x hx;rcases Bs.1 hx with hx | hx
  ·exact h1 x hx
  ·exact h2 x hx
theorem cK.take{l:bt}(h:cK l)(n:Nat):cK (l.take n):=fun x hx=>h x (Ek hx)
theorem cK.get{l:bt}(h:cK l){i x:Nat}(hx:l[i]? =some x):x<B:=h x (Cm hx)
theorem iA:∀ {l:bt},cK l->val l<B ^ l.length
 | [],_=>by simp [dV]
 | x::l,h=>by
  rw[cK.cons] at h;have ih:=iA h.2;rw[eZ,Av,Cy,Bi];have:val l * B+B<=B ^ l.length * B:=by
   have:=Ar B (Nat.succ_le_of_lt ih);rw[Gg] at this;exact this
  have:=h.1;omega
theorem gK{l m:bt}(hl:cK l)(hm:oK m)(h:l.length<m.length):val l<val m:=by
 have h1:=iA hl;have hne:m≠ []:=by intro e;subst e;simp at h
 obtain⟨m',x,rfl⟩:∃m' x,m=m'++ [x]:=⟨m.dropLast,m.getLast hne,(Gb hne).symm⟩;have hx:x≠0:=by
  intro e;apply hm.2;simp [e]
 rw[iO];simp at h;have h2:B ^ l.length<=B ^ m'.length:=Ci jB au;have h3:B ^ m'.length * 1<=B ^ m'.length * x:=Bh _ au;omega
theorem zM:∀ {l m:bt},cK l->cK m->l.length=m.length->val l=val m->l=m
 | [],[],_,_,_,_=>rfl
 | [],_::_,_,_,h,_=>by simp at h
 | _::_,[],_,_,h,_=>by simp at h
 | x::l,y::m,hl,hm,h,hv=>by
  rw[cK.cons] at hl hm;rw[eZ,eZ] at hv;have e1:x=y:=by
   have h1:(x+B * val l) % B=x:=by rw[Nat.add_mul_mod_self_left];exact Ec hl.1
   have h2:(y+B * val m) % B=y:=by rw[Nat.add_mul_mod_self_left];exact Ec hm.1
   rw[hv] at h1;omega
  subst e1;have e2:val l=val m:=by
   have:B * val l=B * val m:=by omega
   exact Nat.eq_of_mul_eq_mul_left jB this
  rw[zM hl.2 hm.2 (by simpa using h) e2]
theorem aDw{l m:bt}(hl:oK l)(hm:oK m)(h:val l=val m):l=m:=by
 rcases Gv l.length m.length with h1 | h1 | h1
 ·have:=gK hl.1 hm h1;omega
 ·exact zM hl.1 hm.1 h1 h
 ·have:=gK hm.1 hl h1;omega
theorem uE:oK []:=⟨cK.nil,by simp⟩
theorem zA{l:bt}(h:oK l):val l=0↔l= []:=by
 constructor
 ·intro h1;exact aDw h uE h1
 ·intro h1;subst h1;rfl
theorem aHw:oK [1]:=⟨fun x hx=>by simp at hx;subst hx;decide,by simp⟩
theorem qL:val [1]=1:=by simp [eZ,dV]
theorem aF4{l:bt}(h:oK l):val l=1↔l= [1]:=by
 constructor
 ·intro h1;exact aDw h aHw (by rw[h1,qL])
 ·intro h1;subst h1;exact qL
theorem aFo:∀ {l:bt},(∀x∈l,x=0)->val l=0
 | [],_=>rfl
 | x::l,h=>by rw[eZ,h x (by simp),aFo (fun y hy=>h y (by simp [hy]))];simp
def Fits(n:Nat):Prop:=n<B ^ 100000
theorem aLT{n i j:Nat}(h:n<B ^ i)(hi:i<=j):n<B ^ j:=Ag h (Ci jB hi)
theorem Fits.of{n i:Nat}(h:n<B ^ i)(hi:i<=100000):Fits n:=by unfold Fits;exact aLT (j:=100000) h hi
theorem Fits.mono{n m:Nat}(h:Fits m)(hn:n<=m):Fits n:=Cg hn h
theorem aHS{l:bt}(h:oK l)(hne:l≠ []):B ^ (l.length - 1)<=val l:=by
 obtain⟨m',x,rfl⟩:∃m' x,l=m'++ [x]:=⟨l.dropLast,l.getLast hne,(Gb hne).symm⟩;have hx:x≠0:=by
  intro e;apply h.2;simp [e]
 rw[iO];have h3:B ^ m'.length * 1<=B ^ m'.length * x:=Bh _ au;simp;omega
theorem aC0{l:bt}{K:Nat}(h:oK l)(hv:val l<B ^ K):l.length<=K:=by
 by_cases hne:l= []
 ·subst hne;simp
 ·have h1:=aHS h hne;rcases Bj K l.length with h2 | h2
  ·have:B ^ K<=B ^ (l.length - 1):=Ci jB au;omega
  ·exact h2
theorem Fits.len{l:bt}(h:oK l)(hv:Fits (val l)):l.length<=100000:=aC0 h hv
variable {fns:T dD}
theorem xH(a b:Bool):isB (.bool a) b=(a==b):=by cases a<;>cases b<;>rfl
theorem aGD{d:Option Nat}{op:AOp}{s:Nat}{b:Bool}{m:Nat}{l:List AO}{F:Fr}{S:St}{Q:Fr->St->Prop}:pU fns (⟨d,op,some (s,b),m⟩::l) F S Q↔if isB (aB s F) b=true then pU fns (⟨d,op,none,m⟩::l) F S Q else pU fns l (cJ d F .undef) S Q:=by
 have e:∀call,yK ⟨d,op,some (s,b),m⟩ call F S=bO (isB (aB s F) b) (yK ⟨d,op,none,m⟩ call F S) (some (cJ d F .undef,S)):=fun call=>by
  cases op<;>rfl
 constructor
 ·rintro⟨n,F',S',h1,h2⟩;rw[fF,e] at h1;cases hb:isB (aB s F) b with
  | true=>
   rw[hb,aN] at h1;rw[if_pos rfl];exact⟨n,F',S',by rw[fF];exact h1,h2⟩
  | false=>
   rw[hb,aR,aH] at h1;rw[if_neg (by simp)];exact⟨n,F',S',h1,h2⟩
 ·intro h;cases hb:isB (aB s F) b with
  | true=>
   rw[hb,if_pos rfl] at h;have⟨n,F',S',h1,h2⟩:=h;refine⟨n,F',S',?_,h2⟩;rw[fF,e,hb,aN,<-fF];exact h1
  | false=>
   rw[hb,if_neg (by simp)] at h;have⟨n,F',S',h1,h2⟩:=h;refine⟨n,F',S',?_,h2⟩;rw[fF,e,hb,aR,aH];exact h1
theorem aQB{d:Option Nat}{op:AOp}{s:Nat}{b:Bool}{m:Nat}{l:List AO}{F:Fr}{S:St}{Q:Fr->St->Prop}(hg:aB s F= .bool b):pU fns (⟨d,op,some (s,b),m⟩::l) F S Q↔pU fns (⟨d,op,none,m⟩::l) F S Q:=by
 rw[aGD,hg,xH,if_pos (by simp)]
theorem aO8{d:Option Nat}{op:AOp}{s:Nat}{b:Bool}{m:Nat}{l:List AO}{F:Fr}{S:St}{Q:Fr->St->Prop}(hg:aB s F= .bool (!b)):pU fns (⟨d,op,some (s,b),m⟩::l) F S Q↔pU fns l (cJ d F .undef) S Q:=by
 rw[aGD,hg,xH,if_neg (by cases b<;>simp)]
theorem aP{c:cP}{x y:AC}{A:bN}{S:St}{Q:Out->bN->St->Prop}(hc:c.val A.F= .bool true)(h:nD fns x A S Q):nD fns (.cond c x y) A S Q:=jG hc (fun _=>h) (fun h=>by cases h)
theorem aO{c:cP}{x y:AC}{A:bN}{S:St}{Q:Out->bN->St->Prop}(hc:c.val A.F= .bool false)(h:nD fns y A S Q):nD fns (.cond c x y) A S Q:=jG hc (fun h=>by cases h) (fun _=>h)
theorem bK{ops:List AO}{y:AC}{A:bN}{S:St}{Q:Out->bN->St->Prop}(h:pU fns ops A.F S fun F' S'=>aBw fns y Q .normal ⟨F',A.inr⟩ S'):nD fns (.seq (.reg ops) y) A S Q:=aE (aM h)
theorem fA{ops:List AO}{y z:AC}{A:bN}{S:St}{Q:Out->bN->St->Prop}(h:pU fns ops A.F S fun F' S'=>aBw fns y (aBw fns z Q) .normal ⟨F',A.inr⟩ S'):nD fns (.seq (.seq (.reg ops) y) z) A S Q:=aE (aE (aM h))
theorem dL(y:AC)(Q:Out->bN->St->Prop)(A:bN)(S:St):aBw fns y Q .normal A S=nD fns y A S Q:=rfl
theorem aCe(y:AC)(Q:Out->bN->St->Prop)(A:bN)(S:St):aBw fns y Q .ret A S=Q .ret A S:=rfl
theorem aAf(y:AC)(Q:Out->bN->St->Prop)(A:bN)(S:St)(i:Nat):aBw fns y Q (.exit i) A S=Q (.exit i) A S:=rfl
theorem eH(id:Nat)(Q:Out->bN->St->Prop)(A:bN)(S:St):xB id Q .normal A S=Q .normal A S:=rfl
theorem aAE(id:Nat)(Q:Out->bN->St->Prop)(A:bN)(S:St):xB id Q .ret A S=Q .ret A S:=rfl
theorem wZ(id i:Nat)(Q:Out->bN->St->Prop)(A:bN)(S:St):xB id Q (.exit i) A S=if i=id then Q .normal A S else Q (.exit i) A S:=rfl
theorem eF(I:Nat->bN->St->Prop)(k:Nat)(Q:Out->bN->St->Prop)(A:bN)(S:St):aBW I k Q .normal A S=∃k',k'<k/\I k' A S:=rfl
theorem aAq(I:Nat->bN->St->Prop)(k:Nat)(Q:Out->bN->St->Prop)(A:bN)(S:St):aBW I k Q .ret A S=Q .ret A S:=rfl
theorem yC(I:Nat->bN->St->Prop)(k i:Nat)(Q:Out->bN->St->Prop)(A:bN)(S:St):aBW I k Q (.exit i) A S=Q (.exit i) A S:=rfl
theorem aAU(res:List RV)(Q:AV->St->Prop)(A:bN)(S:St):aRh res Q .ret A S=mT (results res A.F S.h) fun vs=>Q (oneOf vs) S:=rfl
theorem sK(F:Fr)(h:T AB):results [] F h=some []:=rfl
theorem yT(i:Nat)(rs:List RV)(F:Fr)(h:T AB):results (.t i::rs) F h=aU (results rs F h) fun vs=>some (aB i F::vs):=rfl
theorem aBU(v:AV):oneOf [v]=v:=rfl
theorem yQ(v u:AV)(vs:bo):oneOf (v::u::vs)= .tup (v::u::vs):=rfl
theorem aAl(i:Nat)(F:Fr):qB [] i F=F:=rfl
theorem xK(v:AV)(vs:bo)(i:Nat)(F:Fr):qB (v::vs) i F=qB vs (i+1) (cJ (some i) F v):=rfl
theorem aAj(t:Bool)(a b:cP)(F:Fr):yI (.bool t) a b F=some (bO t (a.val F) (b.val F)):=rfl
theorem aBM(x:cP):dK (.mv x)=false:=rfl
theorem aAg(op:BinOp)(e:qM)(x y:cP):dK (.bin op e x y)=false:=rfl
theorem uZ(k:IxK)(x y:cP):dK (.cq k x y)=false:=rfl
theorem aBI(g:Bool)(n:Nat)(x:cP):dK (.ld g n x)=true:=rfl
theorem iI(x:cP):dK (.ct x)=false:=rfl
theorem aAt(k:IntKind)(x:cP):dK (.conv (.int k) x)=false:=rfl
theorem aHl(h0:T AB)(hs:List (Nat×Nat×T AB)):fT h0 hs []=true:=rfl
theorem vN(h0:T AB)(hs:List (Nat×Nat×T AB))(l:nL)(ls:List nL):fT h0 hs (l::ls)=bO (gN l hs h0) (fT h0 hs ls) false:=rfl
theorem aDO(l:nL)(h:T AB):gN l [] h=qE l.v (iT l.q l.F h):=rfl
theorem zW(v w:AV):qE v (some w)=cQ w v:=rfl
theorem dF(m:Nat)(h:T AB):cG m [] h=([],h):=rfl
attribute [simp] cI jS tG aQB aO8 fS nF sR aPe xH dL aCe aAf eH aAE wZ eF aAq yC aAU sK yT
 aBU yQ aAl xK aAj aH uL aN aR jR iH aI8 qO gH mQ iF xT aDN aGL fB mX bF fQ
 lH mL mE aGU aGP aGk aGX aCO aF9 iG
 aBM aAg uZ aBI iI aAt aHl vN aDO zW kO uH aDV rX aAF dF
theorem wrap_i64{n:Int}(h1: -9223372036854775808<=n)(h2:n<=9223372036854775807):IntKind.i64.wrap n=n:=zF (by simp [IntKind.min,IntKind.signed,IntKind.bits];omega) (by simp [IntKind.max,IntKind.signed,IntKind.bits];omega)
theorem dk(i:Nat)(h:i<9223372036854775807:=by omega):IntKind.i64.wrap ((i:Int)+1)=((i+1:Nat):Int):=by rw[wrap_i64 (by omega) (by omega)];omega
theorem wrap_u64{n:Int}(h1:0<=n)(h2:n<=18446744073709551615):IntKind.u64.wrap n=n:=zF (by simp [IntKind.min,IntKind.signed];omega) (by simp [IntKind.max,IntKind.signed,IntKind.bits];omega)
theorem wrap_u32{n:Int}(h1:0<=n)(h2:n<=4294967295):IntKind.u32.wrap n=n:=zF (by simp [IntKind.min,IntKind.signed];omega) (by simp [IntKind.max,IntKind.signed,IntKind.bits];omega)
def cO(S:St)(v:AV)(l:bt):Prop:=cH .u32 S v (l.map Int.ofNat)
def dG(S:St)(v:AV)(n:Nat):Prop:=∃l,cO S v l/\oK l/\val l=n
theorem cO.len{S:St}{v:AV}{l:bt}(h:cO S v l):lB v=some (.int .i64 (l.length:Int)):=by
 have:=cH.len h;rw[Ce] at this;exact this
theorem cO.cq{S:St}{v:AV}{l:bt}(h:cO S v l){i:Nat}(hi:i<l.length):dT (.slice 1) v i=some (nQ v i):=cH.cq h (by simpa using hi)
theorem cO.ld{S:St}{v:AV}{l:bt}(h:cO S v l){i:Nat}(hi:i<l.length):dJ (nQ v i) false 1 S.h=some (.int .u32 ((l.getD i 0:Nat):Int)):=by
 have:=cH.ld h (i:=i) (by simpa using hi);rw[this];simp [Ae,hi]
theorem cO.same{S S':St}{v:AV}{l:bt}(h:cO S v l)(hs:Same S S'):cO S' v l:=cH.same h hs
theorem dG.same{S S':St}{v:AV}{n:Nat}(h:dG S v n)(hs:Same S S'):dG S' v n:=by
 have⟨l,h1,h2,h3⟩:=h;exact⟨l,h1.same hs,h2,h3⟩
def aJB(v:AV)(i:Nat):AV:=
 match v with
 | .sl b off _ cap o=>.sl b off i cap o
 | v=>v
theorem cO.slc{S:St}{v:AV}{l:bt}(h:cO S v l){i:Nat}(hi:i<l.length){F:Fr}{x:cP}(hx:dS (x.val F)=some i):oS (.slice 1) v none (some x) none F=some (aJB v i):=by
 rcases h with⟨h0,_⟩ | ⟨b,off,cap,o,cs,rfl,hc,hb,hcs,hel⟩
 ·simp at h0;subst h0;simp at hi
 ·rw[Ce] at hc;have e1:Nat.ble cap cap=true:=Ah (Af _);have e2:Nat.ble i cap=true:=Ah au;have e3:Nat.ble 0 i=true:=Ah (Dt _);have e4:Nat.beq cap 0=false:=by rw[Ca];intro h;rw[Az] at h;omega
  simp only[oS,aDR,jP,iU,aH,hx,e1,e2,e3,aN,e4,aR,Gu,Fu,Bm,Option.isNone_none];cases o<;>rfl
theorem cO.head{S:St}{v:AV}{l:bt}(h:cO S v l){i:Nat}(hi:i<l.length):cO S (aJB v i) (l.take i):=by
 rcases h with⟨h0,_⟩ | ⟨b,off,cap,o,cs,rfl,hc,hb,hcs,hel⟩
 ·simp at h0;subst h0;simp at hi
 ·rw[Ce] at hc;refine .inr ⟨b,off,cap,o,cs,?_,?_,hb,hcs,?_⟩
  ·simp only[aJB];rw[Ce,Bq,Dm au]
  ·simp;omega
  ·intro j y hj;refine hel j y ?_;rw[List.map_take,List.getElem?_take] at hj;split at hj
   ·exact hj
   ·cases hj
theorem zT(F:Fr):dE [] F= []:=rfl
theorem pO(x:cP)(l:List cP)(F:Fr):dE (x::l) F=x.val F::dE l F:=rfl
theorem dW(n:Nat)(x v:cP)(call:dR)(F:Fr)(S:St):xN (.st n x v) call F S=aU (v.val F).cells fun cs=>oT (x.val F) n cs S:=rfl
theorem cN(k:IntKind)(n:Int):(AV.int k n).cells=some [.int k n]:=rfl
attribute [simp] zT pO dW cN
theorem aCL(k:SlK)(x:cP)(lo hi mx:Option cP)(F:Fr)(h:T AB):iT (.slc k x lo hi mx) F h=oS k (x.val F) lo hi mx F:=rfl
theorem aGf(k:IntKind){z:Int}(h:0<=z):dS (.int k z)=some z.toNat:=by
 obtain⟨n,rfl⟩:=Eu h;rfl
attribute [simp] aCL aGf
end Go.Ev.Gl
namespace Go.Ev.Gl
theorem aNN{q V U top v1 p lu g r:Nat}(hU:U=top * p+lu)(hlu:lu<p)(hV:v1 * p<=V)(hq:q * V<=U)(hg:g * v1+r=top)(hr:r<v1):q<=g:=by
 have h1:q * (v1 * p)<=q * V:=Bh q hV;have h2:q * v1 * p<(top+1) * p:=by rw[Bl,Ch];omega
 have h3:q * v1<top+1:=Gk h2;rcases Bj g q with h | h
 ·have h4:(g+1) * v1<=q * v1:=Ar _ h;rw[Ch] at h4;omega
 ·exact h
theorem aOk{q V U top v1 v2 c p u2 lu g r:Nat}(hU:U=(top * c+u2) * p+lu)(hlu:lu<p)(hV:(v1 * c+v2) * p<=V)(hq:q * V<=U)(hg:g * v1+r=top)(hge:q<=g)(h:r * c+u2<g * v2):q<g:=by
 rcases Bj q g with h0 | h0
 ·exact h0
 ·have e:q=g:=by omega
  subst e;have h1:q * ((v1 * c+v2) * p)<=q * V:=Bh q hV;have h2:q * (v1 * c+v2) * p<(top * c+u2+1) * p:=by rw[Bl,Ch _ 1];omega
  have h3:q * (v1 * c+v2)<top * c+u2+1:=Gk h2;subst hg;have e:q * (v1 * c+v2)=q * v1 * c+q * v2:=by rw[Cn,Bl]
  have e2:(q * v1+r) * c=q * v1 * c+r * c:=Ch ..;rw[e] at h3;rw[e2] at h3;generalize q * v1 * c=k at *;omega
theorem aOb{V U top v1 v2 c p u2 lu lv g r:Nat}(hU:U=(top * c+u2) * p+lu)(hV:V=(v1 * c+v2) * p+lv)(hlv:lv<p)(hg:g * v1+r=top)(hgc:g<=c)(hv1:0<v1)(h:g * v2<=r * c+u2):g * V<=U+V:=by
 have h1:g * (v1 * c+v2)<=top * c+u2:=by
  subst hg;have e:g * (v1 * c+v2)=g * v1 * c+g * v2:=by rw[Cn,Bl]
  rw[e,Ch];omega
 have h2:g * (v1 * c+v2) * p<=(top * c+u2) * p:=Ar p h1;have h3:g * lv<=c * p:=Dw hgc (Nat.le_of_lt hlv);have h4:c * p<=V:=by
  have:1 * c<=v1 * c:=Ar c hv1;have h5:c * p<=(v1 * c+v2) * p:=Ar p au;omega
 have e:g * V=g * (v1 * c+v2) * p+g * lv:=by rw[hV,Cn,Bl]
 omega
theorem aDS{x y a b c:Nat}(hx:x<c)(hy:y<c)(h:x+a * c=y+b * c):x=y/\a=b:=by
 have e1:(x+a * c) % c=x:=by rw[Gm,Ec hx]
 have e2:(y+b * c) % c=y:=by rw[Gm,Ec hy]
 have e:x=y:=by rw[<-e1,<-e2,h]
 subst e;refine⟨rfl,?_⟩;have:a * c=b * c:=by omega
 exact Nat.eq_of_mul_eq_mul_right au this
theorem aLu{c ul uo g vl y x cr b t q r left cr':Nat}(hinv:ul+g * vl=uo+cr * b)(ht:t=g * y+cr)(hqr:q * c+r=t)(hl:left+r+q * c=x+cr' * c):(ul+b * left)+g * (vl+b * y)=(uo+b * x)+cr' * (b * c):=by
 have e1:b * (left+r+q * c)=b * (x+cr' * c):=by rw[hl]
 have e2:b * (q * c+r)=b * (g * y+cr):=by rw[hqr,ht]
 grind
theorem aMP{c ul uo vl y x m b left m':Nat}(hinv:ul+m * b=uo+vl)(hl:left+m' * c=x+y+m):(ul+b * left)+m' * (b * c)=(uo+b * x)+(vl+b * y):=by
 have e1:b * (left+m' * c)=b * (x+y+m):=by rw[hl]
 grind
theorem aPh{U V q g ul uo x cr P:Nat}(hU:U=uo+x * P)(hq1:q * V<=U)(hq2:U<(q+1) * V)(hVP:V<P)(hge:q<=g)(hle:g * V<=U+V)(hinv:ul+g * V=uo+cr * P)(hul:ul<P):
  (x<cr->g=q+1/\∀u2 m,u2<P->u2+m * P=ul+V->u2=U - q * V)/\(¬x<cr->g=q/\ul=U - q * V):=by
 have hg1:g<=q+1:=by
  rcases Bj (q+1) g with h | h
  ·have h1:(q+2) * V<=g * V:=Ar V h;have e:(q+2) * V=(q+1) * V+V:=by grind
   omega
  ·exact h
 constructor
 ·intro h;have hne:g≠q:=by
   rintro rfl;have:(x+1) * P<=cr * P:=Ar P h;rw[Ch] at this;omega
  have e:g=q+1:=by omega
  subst e;refine⟨rfl,fun u2 m hu hm=>?_⟩;have e1:(q+1) * V=q * V+V:=by rw[Ch];omega
  rw[e1] at hinv hq2;obtain⟨r,hr⟩:∃r,U=q * V+r:=⟨U - q * V,au⟩;have hrV:r<V:=by omega
  have key:r+cr * P=u2+(m+x) * P:=by rw[Ch];omega
  have:=(aDS au hu key).1;omega
 ·intro h;have e:g=q:=by
   rcases Bj q g with h0 | h0
   ·have h1:(q+1) * V<=g * V:=Ar V h0;have h2:cr * P<=x * P:=Ar P au;omega
   ·omega
  subst e;refine⟨rfl,?_⟩;obtain⟨r,hr⟩:∃r,U=g * V+r:=⟨U - g * V,au⟩;have e1:(g+1) * V=g * V+V:=by rw[Ch];omega
  have key:r+cr * P=ul+x * P:=by omega
  have:=(aDS au hul key).1;omega
end Go.Ev.Gl
namespace Go.Ev.Gl
def Tz(x k:Nat):Prop:=∃m,x=2 ^ k * (2 * m+1)
theorem aOr:∀ {x:Nat},0<x->∃k,Tz x k:=by
 intro x
 induction x using Nat.strongRecOn with
 | _ x ih=>
  intro hx;rcases Nat.mod_two_eq_zero_or_one x with h | h
  ·have⟨k,m,hk⟩:=ih (x / 2) au au;refine⟨k+1,m,?_⟩;have:x=2 * (x / 2):=by omega
   rw[this,hk,Cy]
   grind
  ·exact⟨0,x / 2,by simp;omega⟩
theorem Tz.pos{x k:Nat}(h:Tz x k):0<x:=by
 obtain⟨m,rfl⟩:=h;exact Ew (Fx ay) au
theorem Tz.lt{x k n:Nat}(h:Tz x k)(hx:x<2 ^ n):k<n:=by
 obtain⟨m,rfl⟩:=h;rcases Bj k n with h | h
 ·exact h
 ·have h1:2 ^ n<=2 ^ k:=Ci ay h;have h2:2 ^ k * 1<=2 ^ k * (2 * m+1):=Bh _ au;omega
theorem aRv{x k n:Nat}(h:Tz x k)(hx:x<2 ^ n):Nat.land x (2 ^ n - x)=2 ^ k:=by
 have hk:=h.lt hx;have h0:=h.pos;have⟨m,e⟩:=h;show x &&& (2 ^ n - x)=2 ^ k;apply Nat.eq_of_testBit_eq;intro i;have e1:2 ^ n - x=2 ^ n - ((x - 1)+1):=by congr 1;omega
 rw[Nat.testBit_and,e1,Nat.testBit_two_pow_sub_succ au,Nat.testBit_two_pow];have ex:x=2 ^ k * (2 * m+1)+0:=by omega
 have ey:x - 1=2 ^ k * (2 * m)+(2 ^ k - 1):=by
  have:=Fx (n:=k) (show 0<2 by decide);rw[e,Cn];omega
 have hp:=Fx (n:=k) (show 0<2 by decide);rw[ey,Nat.testBit_two_pow_mul_add _ au];rw[ex,Nat.testBit_two_pow_mul_add _ au];by_cases h1:i<k
 ·rw[if_pos h1,if_pos h1];have:k≠i:=by omega
  simp [this]
 ·rw[if_neg h1,if_neg h1];by_cases h2:i=k
  ·subst h2;simp [hk]
  ·have h3:∃j,i - k=j+1:=⟨i - k - 1,au⟩;have⟨j,hj⟩:=h3;have h4:k≠i:=fun e=>h2 e.symm;rw[hj,Nat.testBit_succ,Nat.testBit_succ];have e2:(2 * m+1) / 2=m:=by omega
   have e3:2 * m / 2=m:=by omega
   rw[e2,e3];cases m.testBit j<;>simp [h4]
theorem aSk{a b i j:Nat}(ha:Tz a i)(hb:Tz b j):Tz (Nat.lor a b) (min i j):=by
 have key:∀ {a b i j:Nat},i<=j->Tz a i->Tz b j->Tz (a ||| b) i:=by
  rintro a b i j hij ⟨m,rfl⟩ ⟨l,rfl⟩;have ej:2 ^ j * (2 * l+1)=2 ^ i * (2 ^ (j - i) * (2 * l+1)):=by
   rw[<-Bl,<-Hl];congr 2;omega
  rw[ej];generalize 2 ^ (j - i) * (2 * l+1)=c;refine⟨((2 * m+1) ||| c) / 2,?_⟩;have e1:2 ^ i * (2 * m+1) ||| 2 ^ i * c=2 ^ i * ((2 * m+1) ||| c):=by
   apply Nat.eq_of_testBit_eq;intro t;rw[Nat.testBit_or];have f:∀z,(2 ^ i * z).testBit t=if t<i then false else z.testBit (t - i):=fun z=>by
    have:=Nat.testBit_two_pow_mul_add z (b:=0) (i:=i) (Fx ay) t;simpa using this
   rw[f,f,f];split
   ·rfl
   ·rw[Nat.testBit_or]
  rw[e1];congr 1;have e2:((2 * m+1) ||| c) % 2=1:=by
   have h0:((2 * m+1) ||| c).testBit 0=true:=by rw[Nat.testBit_or];simp
   rw[Nat.testBit_zero] at h0;exact Fb h0
  omega
 rcases Nat.le_total i j with h | h
 ·rw[Dm h];exact key h ha hb
 ·rw[Nat.min_eq_right h];have:=key h hb ha;show Tz (a ||| b) j;rw[Nat.or_comm];exact this
theorem Tz.odd{x k:Nat}(h:Tz x k):x / 2 ^ k % 2=1/\x=2 ^ k * (x / 2 ^ k)/\0<x / 2 ^ k:=by
 obtain⟨m,rfl⟩:=h;rw[Eh _ (Fx ay)];refine⟨au,rfl,au⟩
theorem aGT{a:Nat}(h:a % 2=1)(k:Nat):Nat.Coprime (2 ^ k) a:=by
 apply Nat.Coprime.pow_left;show Nat.gcd 2 a=1;rw[Nat.gcd_rec,h];decide
theorem aCS{a b k:Nat}(ha:a % 2=1):Nat.gcd a (2 ^ k * b)=Nat.gcd a b:=by
 rw[Eb,Nat.Coprime.gcd_mul_left_cancel _ (aGT ha k),Eb]
theorem aLG{a b i j:Nat}(ha:Tz a i)(hb:Tz b j):Nat.gcd a b=2 ^ (min i j) * Nat.gcd (a / 2 ^ i) b:=by
 have⟨a1,a2,a3⟩:=ha.odd;have⟨b1,b2,b3⟩:=hb.odd;generalize a / 2 ^ i=x at *;generalize b / 2 ^ j=y at *;rw[a2,b2,aCS a1];rcases Nat.le_total i j with h | h
 ·rw[Dm h];have e:2 ^ j * y=2 ^ i * (2 ^ (j - i) * y):=by rw[<-Bl,<-Hl];congr 2;omega
  rw[e,Nat.gcd_mul_left,aCS a1]
 ·rw[Nat.min_eq_right h];have e:2 ^ i * x=2 ^ j * (2 ^ (i - j) * x):=by rw[<-Bl,<-Hl];congr 2;omega
  rw[e,Nat.gcd_mul_left,Eb,aCS b1,Eb]
theorem aK4{a b:Nat}(h:a<=b):Nat.gcd a (b - a)=Nat.gcd a b:=by
 rw[Eb,Nat.gcd_sub_self_left h,Eb]
def aDU:bt:=[0,1,56,2,57,49,28,3,61,58,42,50,38,29,17,4,62,47,59,36,45,43,51,22,53,39,33,30,24,18,12,5,63,55,48,27,60,41,37,16,46,35,44,21,52,32,23,11,54,26,40,15,34,20,31,10,25,14,19,9,13,8,7,6]
theorem aJg:∀k,k<64->aDU[(2 ^ k * 285870213051353865 % 2 ^ 64) / 2 ^ 58]? =some k:=by decide
end Go.Ev.Gl
namespace Go.Ev.Gl
theorem aFD{A C f g p e w x y z q r1 r2 tens d:Int}(hw:0<=w)(hx:x<=0)(hy:y<=0)(hz:0<=z)(hf:0<=f)(hfd:f<d)(hg:0<=g)(hgd:g<d)
  (hA:tens * A=p * d+(w * f+x * g)) (hC:tens * C=e * d+(y * f+z * g)) (h1:p+w=q * (e+y)+r1) (h1l:r1<e+y) (h2:p+x=q * (e+z)+r2) (h2n:0<=r2) (hq:0<=q) (ht:0<tens):
  q * C<=A/\A<(q+1) * C:=by
 have hd:0<=d:=by omega
 have a1:0<=w * f:=Cz hw hf;have a2:w * f<=w * d:=Cj au hw;have a3:0<=(-x) * g:=Cz au hg;have a4:(-x) * g<=(-x) * d:=Cj au au;have a5:0<=z * g:=Cz hz hg;have a6:z * g<=z * d:=Cj au hz;have a7:0<=(-y) * f:=Cz au hf;have a8:(-y) * f<=(-y) * d:=Cj au au;rw[Int.neg_mul] at a3 a4 a7 a8;rw[Int.neg_mul] at a4 a8;constructor
 ·have b1:tens * C<=(e+z) * d:=by rw[Hc];omega
  have b2:q * (tens * C)<=q * ((e+z) * d):=Cj b1 hq;have b3:(p+x) * d<=tens * A:=by rw[Hc];omega
  have b4:0<=r2 * d:=Cz h2n hd;have b5:(p+x) * d=q * ((e+z) * d)+r2 * d:=by rw[h2,Hc,Int.mul_assoc]
  have b6:tens * (q * C)<=tens * A:=by
   have:tens * (q * C)=q * (tens * C):=by grind
   omega
  exact Int.le_of_mul_le_mul_left b6 ht
 ·have b1:(e+y) * d<=tens * C:=by rw[Hc];omega
  have b2:(q+1) * ((e+y) * d)<=(q+1) * (tens * C):=Cj b1 au;have b3:tens * A<=(p+w) * d:=by rw[Hc];omega
  have b4:(p+w+1) * d<=((q+1) * (e+y)) * d:=by
   apply Int.mul_le_mul_of_nonneg_right _ hd;rw[h1,Hc q 1];omega
  rw[Hc (p+w) 1,Int.mul_assoc (q+1)] at b4;have b6:tens * A<tens * ((q+1) * C):=by
   have:tens * ((q+1) * C)=(q+1) * (tens * C):=by grind
   omega
  exact Int.lt_of_mul_lt_mul_left b6 au
theorem aE7{p e x y z q r2 M:Int}(hy:y<=0)(hz:0<=z)(hpx:p+x<=M)(hey:0<e+y)(h2:p+x=q * (e+z)+r2)(h2n:0<=r2)(hq:0<=q):
  0<=q * e/\q * e<=M/\ -M<=q * y/\q * y<=0/\0<=q * z/\q * z<=M:=by
 have b1:q * (e+z)<=M:=by omega
 have a1:0<=q * e:=Cz hq au;have a2:0<=q * z:=Cz hq hz;have a3:0<=q * (-y):=Cz hq au;have a4:0<=q * (e+y):=Cz hq au;rw[Hm] at b1 a4;rw[Int.mul_neg] at a3;omega
structure Leh(a b P E p e w x y z:Int):Prop where
 signs:(0<=w/\x<=0/\y<=0/\0<=z)\/(w<=0/\0<=x/\0<=y/\z<=0)
 det:w * z - x * y=1\/w * z - x * y= -1
 hp:p=w * P+x * E
 he:e=y * P+z * E
 pw:0<=p+w/\p+w<=1000000000000000000
 px:0<=p+x/\p+x<=1000000000000000000
 ey:0<=e+y/\e+y<=1000000000000000000
 ez:0<=e+z/\e+z<=1000000000000000000
 size: -1000000000<w/\w<1000000000/\ -1000000000<x/\x<1000000000/\ -1000000000<y/\y<1000000000/\ -1000000000<z/\z<1000000000
 low:0<=y * a+z * b
 made:(w=1/\x=0/\y=0/\z=1)\/(y * a+z * b<w * a+x * b/\w * a+x * b<=b)
theorem Leh.start{a b P E:Int}(hb:0<=b)(hE:0<=E)(hEP:E<=P)(hP:P<1000000000000000000):Leh a b P E P E 1 0 0 1:=
 ⟨.inl au,.inl au,au,au,au,au,au,au,au,au,.inl au⟩
theorem Leh.step{a b P E p e w x y z f g tens d q:Int}(h:Leh a b P E p e w x y z)(hab:b<=a)(ht:0<tens)(hf:0<=f)(hfd:f<d)(hg:0<=g)(hgd:g<d)(ha:tens * a=P * d+f)(hb:tens * b=E * d+g)
  (h1:e+y≠0) (h2:e+z≠0) (hq1:q=(p+w) / (e+y)) (hq2:q=(p+x) / (e+z)):
  (0<=q * e/\q * e<=1000000000000000000/\ -1000000000000000000<=q * y/\q * y<=1000000000000000000/\ -1000000000000000000<=q * z/\q * z<=1000000000000000000)/\
  (-1000000000<w - q * y->w - q * y<1000000000-> -1000000000<x - q * z->x - q * z<1000000000->Leh a b P E e (p - q * e) y z (w - q * y) (x - q * z)/\(w - q * y) * a+(x - q * z) * b<y * a+z * b):=by
 have hey:=h.ey;have hez:=h.ez;have hpw:=h.pw;have hpx:=h.px;have p1:0<e+y:=by omega
 have p2:0<e+z:=by omega
 have hq:0<=q:=by rw[hq1];exact Int.ediv_nonneg hpw.1 hey.1
 have e1:=Int.mul_ediv_add_emod (p+w) (e+y);have e2:=Int.mul_ediv_add_emod (p+x) (e+z);have m1:=Int.emod_nonneg (p+w) h1;have m2:=Int.emod_nonneg (p+x) h2;have l1:=Int.emod_lt_of_pos (p+w) p1;have l2:=Int.emod_lt_of_pos (p+x) p2;rw[<-hq1] at e1;rw[<-hq2] at e2;generalize (p+w) % (e+y)=r1 at *;generalize (p+x) % (e+z)=r2 at *;have e1:p+w=q * (e+y)+r1:=by rw[Int.mul_comm];omega
 have e2:p+x=q * (e+z)+r2:=by rw[Int.mul_comm];omega
 have hA:tens * (w * a+x * b)=p * d+(w * f+x * g):=by
  have:tens * (w * a+x * b)=w * (tens * a)+x * (tens * b):=by grind
  rw[this,ha,hb,h.hp];grind
 have hC:tens * (y * a+z * b)=e * d+(y * f+z * g):=by
  have:tens * (y * a+z * b)=y * (tens * a)+z * (tens * b):=by grind
  rw[this,ha,hb,h.he];grind
 have hex:q * (y * a+z * b)<=w * a+x * b/\w * a+x * b<(q+1) * (y * a+z * b):=by
  rcases h.signs with⟨s1,s2,s3,s4⟩ | ⟨s1,s2,s3,s4⟩
  ·exact aFD s1 s2 s3 s4 hf hfd hg hgd hA hC e1 l1 e2 m2 hq ht
  ·exact aFD s2 s1 s4 s3 hg hgd hf hfd (by rw[hA];omega) (by rw[hC];omega) e2 l2 e1 m1 hq ht
 refine⟨?_,?_⟩
 ·rcases h.signs with⟨s1,s2,s3,s4⟩ | ⟨s1,s2,s3,s4⟩
  ·have:=aE7 s3 s4 hpx.2 p1 e2 m2 hq;omega
  ·have:=aE7 s4 s3 hpw.2 p2 e1 m1 hq;omega
 ·intro z1 z2 z3 z4;have eB:(w - q * y) * a+(x - q * z) * b=(w * a+x * b) - q * (y * a+z * b):=by grind
  have hlow:=h.low;rw[Hc] at hex;refine⟨⟨?_,?_,h.he,?_,hey,hez,?_,?_,?_,?_,.inr ?_⟩,au⟩
  ·rcases h.signs with⟨s1,s2,s3,s4⟩ | ⟨s1,s2,s3,s4⟩
   ·have a1:=Cz hq (show 0<= -y by omega);have a2:=Cz hq s4;rw[Int.mul_neg] at a1;exact .inr au
   ·have a1:=Cz hq (show 0<= -z by omega);have a2:=Cz hq s3;rw[Int.mul_neg] at a1;exact .inl au
  ·have:y * (x - q * z) - z * (w - q * y)= -(w * z - x * y):=by grind
   rw[this];rcases h.det with h | h<;>rw[h]
   ·exact .inr rfl
   ·exact .inl rfl
  ·rw[h.hp,h.he];grind
  ·have:p - q * e+(w - q * y)=r1:=by rw[Hm] at e1;omega
   rw[this];omega
  ·have:p - q * e+(x - q * z)=r2:=by rw[Hm] at e2;omega
   rw[this];omega
  ·have:=h.size;omega
  ·omega
  ·rcases h.made with⟨rfl,rfl,rfl,rfl⟩ | ⟨k1,k2⟩
   ·omega
   ·omega
theorem aPT{w x y z:Int}{a b a' b':Nat}(h:w * z - x * y=1\/w * z - x * y= -1)(ha:(a':Int)=w * a+x * b)(hb:(b':Int)=y * a+z * b):Nat.gcd a' b'=Nat.gcd a b:=by
 apply Nat.dvd_antisymm
 ·have d1:((Nat.gcd a' b':Nat):Int) ∣ a':=Cp.2 (Cw ..);have d2:((Nat.gcd a' b':Nat):Int) ∣ b':=Cp.2 (Eg ..);have k1:(w * z - x * y) * (a:Int)=z * a' - x * b':=by rw[ha,hb];grind
  have k2:(w * z - x * y) * (b:Int)=w * b' - y * a':=by rw[ha,hb];grind
  have g1:((Nat.gcd a' b':Nat):Int) ∣ (w * z - x * y) * (a:Int):=by rw[k1];exact Int.dvd_sub (Dg d1) (Dg d2)
  have g2:((Nat.gcd a' b':Nat):Int) ∣ (w * z - x * y) * (b:Int):=by rw[k2];exact Int.dvd_sub (Dg d2) (Dg d1)
  apply Nat.dvd_gcd
  ·rcases h with h | h<;>rw[h] at g1
   ·rw[Int.one_mul] at g1;exact Cp.1 g1
   ·rw[Int.neg_one_mul,Int.dvd_neg] at g1;exact Cp.1 g1
  ·rcases h with h | h<;>rw[h] at g2
   ·rw[Int.one_mul] at g2;exact Cp.1 g2
   ·rw[Int.neg_one_mul,Int.dvd_neg] at g2;exact Cp.1 g2
 ·have d1:((Nat.gcd a b:Nat):Int) ∣ a:=Cp.2 (Cw ..);have d2:((Nat.gcd a b:Nat):Int) ∣ b:=Cp.2 (Eg ..);apply Nat.dvd_gcd
  ·apply Cp.1;rw[ha];exact Int.dvd_add (Dg d1) (Dg d2)
  ·apply Cp.1;rw[hb];exact Int.dvd_add (Dg d1) (Dg d2)
end Go.Ev.Gl
namespace Go.Ev.Gl
theorem aJo{l1 l2 l3 low tens k p:Nat}(hlow:low<p)(ht:0<tens)(hk:0<k):
  ∃f,tens * (low+p * (l3+tens * k * (l2+tens * k * l1)))=((l1 * (tens * k)+l2) * tens+l3 * tens / (tens * k)) * (p * (tens * k))+f/\f<p * (tens * k):=by
 have hdm:=El (l3 * tens) (tens * k);have hm:l3 * tens % (tens * k)=tens * (l3 % k):=by rw[Bi l3,Nat.mul_mod_mul_left]
 have hlt:l3 % k<k:=Dj _ hk;rw[hm] at hdm;generalize l3 * tens / (tens * k)=u at *;generalize l3 % k=r at *;refine⟨tens * low+p * (tens * r),?_,?_⟩
 ·have:l3 * tens=tens * k * u+tens * r:=hdm.symm;have e:p * (l3 * tens)=p * (tens * k * u+tens * r):=by rw[this]
  grind
 ·have h1:tens * (low+1)<=tens * p:=Bh _ hlow;have h2:p * (tens * (r+1))<=p * (tens * k):=Bh _ (Bh _ hlt);have e1:p * (tens * (r+1))=p * (tens * r)+tens * p:=by grind
  have e2:tens * (low+1)=tens * low+tens:=by grind
  omega
theorem aQz{l1 l2 l3 low tens k p:Nat}(hlow:low<p)(h3:l3<tens * k)(h2:l2<tens * k)(h1:l1 * tens<tens * k):(l1 * (tens * k)+l2) * tens+l3 * tens / (tens * k)<tens * k * (tens * k):=by
 have ht:0<tens:=by
  rcases An tens with h | h
  ·subst h;simp at h1
  ·exact h
 have hk:l1<k:=by rw[Bi tens] at h1;exact Gk h1
 have hd:l3 * tens / (tens * k)<tens:=by
  rw[Ed au];rw[Bi];exact Nat.mul_lt_mul_of_pos_left h3 ht
 have g1:(l1+1) * (tens * k) * tens<=k * (tens * k) * tens:=Ar _ (Ar _ hk);have g2:(l2+1) * tens<=tens * k * tens:=Ar _ h2;have e1:(l1+1) * (tens * k) * tens=l1 * (tens * k) * tens+tens * k * tens:=by grind
 have e2:(l1 * (tens * k)+l2) * tens=l1 * (tens * k) * tens+l2 * tens:=Ch ..;have e3:(l2+1) * tens=l2 * tens+tens:=by grind
 have e4:k * (tens * k) * tens=tens * k * (tens * k):=by grind
 omega
end Go.Ev.Gl
namespace Go.Ev.Gl
def sg(neg:Bool)(n:Nat):Int:=if neg then -(n:Int) else n
theorem pD(neg:Bool)(n:Nat):(sg neg n).natAbs=n:=by cases neg<;>simp [sg]
theorem aNs(a b:Bool)(n m:Nat):sg (a !=b) (n * m)=sg a n * sg b m:=by cases a<;>cases b<;>simp [sg]<;>grind
theorem aB7(q:Rat):sg (decide (q.num<0)) q.num.natAbs=q.num:=by
 unfold sg;by_cases h:q.num<0<;>simp [h]<;>omega
theorem aRa{neg:Bool}{n:Nat}(h:n=0->neg=false):decide (sg neg n<0)=neg:=by
 cases neg<;>simp [sg];rcases An n with h1 | h1
 ·exact absurd (h h1) (by simp)
 ·exact h1
theorem aNQ{n:Int}{d:Nat}(hd:d≠0)(hc:n.natAbs.Coprime d):(mkRat n d).num=n/\(mkRat n d).den=d:=by
 rw[<-Rat.mk_eq_mkRat n d hd hc];exact⟨rfl,rfl⟩
theorem lowest{neg:Bool}{n d g:Nat}(hg:g=Nat.gcd n d)(hd:d≠0):mkRat (sg neg (n / g)) (d / g)=mkRat (sg neg n) d/\Nat.Coprime (n / g) (d / g)/\d / g≠0:=by
 have hgp:0<g:=by rw[hg];exact Dq _ au
 have h1:g ∣ n:=by rw[hg];exact Cw ..
 have h2:g ∣ d:=by rw[hg];exact Eg ..
 have h3:d / g≠0:=by
  have:=Hd (Hj au h2) hgp;omega
 refine⟨?_,?_,h3⟩
 ·rw[Rat.mkRat_eq_iff h3 hd];have e1:=Dk h1;have e2:=Dk h2;generalize n / g=x at *;generalize d / g=y at *;subst e1;subst e2;cases neg<;>simp [sg]<;>grind
 ·rw[hg];exact Ex (by rw[<-hg];exact hgp)
theorem aAP{a b c d:Nat}(h:Nat.Coprime a b)(h1:c ∣ a)(h2:d ∣ b):Nat.Coprime c d:=Gc h1 (Nat.Coprime.coprime_dvd_right h2 h)
theorem aLW{n1 n2 d1 d2 g h:Nat}(c1:Nat.Coprime n1 d1)(c2:Nat.Coprime n2 d2)(hd1:d1≠0)(hd2:d2≠0)(hg:g=Nat.gcd n1 d2)(hh:h=Nat.gcd n2 d1)(s t:Bool):
  mkRat (sg (s !=t) (n1 / g * (n2 / h))) (d1 / h * (d2 / g))=mkRat (sg s n1) d1 * mkRat (sg t n2) d2/\Nat.Coprime (n1 / g * (n2 / h)) (d1 / h * (d2 / g))/\d1 / h * (d2 / g)≠0:=by
 have hgp:0<g:=by rw[hg];exact Dq _ au
 have hhp:0<h:=by rw[hh];exact Dq _ au
 have g1:g ∣ n1:=by rw[hg];exact Cw ..
 have g2:g ∣ d2:=by rw[hg];exact Eg ..
 have h1:h ∣ n2:=by rw[hh];exact Cw ..
 have h2:h ∣ d1:=by rw[hh];exact Eg ..
 have k1:Nat.Coprime (n1 / g) (d2 / g):=by rw[hg];exact Ex (by rw[<-hg];exact hgp)
 have k2:Nat.Coprime (n2 / h) (d1 / h):=by rw[hh];exact Ex (by rw[<-hh];exact hhp)
 have k3:Nat.Coprime (n1 / g) (d1 / h):=aAP c1 (Fm g1) (Fm h2);have k4:Nat.Coprime (n2 / h) (d2 / g):=aAP c2 (Fm h1) (Fm g2);have e1:=Dk g1;have e2:=Dk g2;have e3:=Dk h1;have e4:=Dk h2;generalize n1 / g=x at *;generalize d2 / g=y at *;generalize n2 / h=z at *;generalize d1 / h=w at *;have hne:w * y≠0:=by
  rw[Nat.mul_ne_zero_iff];constructor
  ·rintro rfl;simp at e4;exact hd1 e4.symm
  ·rintro rfl;simp at e2;exact hd2 e2.symm
 refine⟨?_,?_,hne⟩
 ·rw[Rat.mkRat_mul_mkRat,Rat.mkRat_eq_iff hne (Hg hd1 hd2)];rw[<-e1,<-e2,<-e3,<-e4,<-aNs];generalize (s !=t)=b;cases b<;>simp [sg]<;>grind
 ·exact Nat.Coprime.mul_left (Nat.Coprime.mul_right k3 k1) (Nat.Coprime.mul_right k2 k4)
theorem aCu{n1 n2:Int}{x y d1:Nat}(c1:Nat.Coprime n1.natAbs d1)(hx:x ∣ d1)(hxy:Nat.Coprime x y):Nat.Coprime (n1 * y+n2 * x).natAbs x:=by
 have h1:=Cw (n1 * y+n2 * x).natAbs x;have h2:=Eg (n1 * y+n2 * x).natAbs x;show Nat.gcd (n1 * y+n2 * x).natAbs x=1;generalize Nat.gcd (n1 * y+n2 * x).natAbs x=d at *;have a1:(d:Int) ∣ n1 * y+n2 * x:=Int.ofNat_dvd_left.2 h1;have a2:(d:Int) ∣ n2 * x:=Dg (Cp.2 h2);have a3:(d:Int) ∣ n1 * y:=(Int.dvd_add_left a2).1 a1;have a4:d ∣ n1.natAbs * y:=by
  have:=Int.ofNat_dvd_left.1 a3
  rwa [Gz,Gn] at this
 have a5:Nat.Coprime d y:=Gc h2 hxy;have a6:d ∣ n1.natAbs:=Nat.Coprime.dvd_of_dvd_mul_right a5 a4;have a7:d ∣ 1:=by
  have:=Nat.dvd_gcd a6 (Gh h2 hx)
  rwa [c1] at this
 exact Nat.dvd_one.1 a7
theorem aOs{n1 n2:Int}{d1 d2 g c:Nat}(c1:Nat.Coprime n1.natAbs d1)(c2:Nat.Coprime n2.natAbs d2)(hd1:d1≠0)(hd2:d2≠0)(hg:g=Nat.gcd d1 d2)(hc:c=Nat.gcd (n1 * (d2 / g:Nat)+n2 * (d1 / g:Nat)).natAbs g)(s:Bool){m:Nat}(hm:sg s m=n1 * (d2 / g:Nat)+n2 * (d1 / g:Nat)):
  mkRat (sg s (m / c)) (d1 / g * (d2 / c))=mkRat n1 d1+mkRat n2 d2/\Nat.Coprime (m / c) (d1 / g * (d2 / c))/\d1 / g * (d2 / c)≠0:=by
 have hgp:0<g:=by rw[hg];exact Dq _ au
 have hcp:0<c:=by rw[hc];exact Dq _ hgp
 have g1:g ∣ d1:=by rw[hg];exact Cw ..
 have g2:g ∣ d2:=by rw[hg];exact Eg ..
 have hma:m=(n1 * (d2 / g:Nat)+n2 * (d1 / g:Nat)).natAbs:=by rw[<-hm,pD]
 rw[<-hma] at hc;have hcm:c ∣ m:=by rw[hc];exact Cw ..
 have hcg:c ∣ g:=by rw[hc];exact Eg ..
 have kxy:Nat.Coprime (d1 / g) (d2 / g):=by rw[hg];exact Ex (by rw[<-hg];exact hgp)
 have k1:Nat.Coprime m (d1 / g):=by rw[hma];exact aCu c1 (Fm g1) kxy
 have k2:Nat.Coprime m (d2 / g):=by
  rw[hma,Int.add_comm];exact aCu c2 (Fm g2) (Nat.Coprime.symm kxy)
 have k3:Nat.Coprime (m / c) (g / c):=by rw[hc];exact Ex (by rw[<-hc];exact hcp)
 have hmc:m / c ∣ m:=Fm hcm;have e1:=Dk g1;have e2:=Dk g2;have e3:=Dk hcm;have e4:=Dk hcg;have e5:d2 / c=d2 / g * (g / c):=by
  have:d2 / g * (g / c) * c=d2:=by rw[Bl,e4,e2]
  rw[<-this,Nat.mul_div_cancel _ hcp,this]
 rw[e5];clear hma;generalize d1 / g=x at *;generalize d2 / g=y at *;generalize m / c=z at *;generalize g / c=w at *;have hne:x * (y * w)≠0:=by
  rw[Nat.mul_ne_zero_iff,Nat.mul_ne_zero_iff];refine⟨?_,?_,?_⟩
  ·rintro rfl;simp at e1;exact hd1 e1.symm
  ·rintro rfl;simp at e2;exact hd2 e2.symm
  ·rintro rfl;simp at e4;omega
 refine⟨?_,?_,hne⟩
 ·rw[Rat.mkRat_add_mkRat _ _ hd1 hd2,Rat.mkRat_eq_iff hne (Hg hd1 hd2)];have hz:sg s z * c=n1 * y+n2 * x:=by rw[<-hm,<-e3];cases s<;>simp [sg]<;>grind
  have f1:(d1:Int)=x * (w * c):=by rw[<-e1,<-e4];simp
  have f2:(d2:Int)=y * (w * c):=by rw[<-e2,<-e4];simp
  simp only[Bk];rw[f1,f2]
  grind
 ·refine Nat.Coprime.mul_right (Gc hmc k1) (Nat.Coprime.mul_right (Gc hmc k2) k3)
end Go.Ev.Gl
