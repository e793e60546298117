import Derived.Test.YtdkehphobhnjoaaEv8
set_option maxHeartbeats 0
set_option linter.unusedSimpArgs false
set_option linter.unusedVariables false
abbrev Go.Ev.de:=@Go.Ev.Same.refl
namespace Go.Ev.Gl
variable {fns:T dU}
theorem vR(a b:Bool):isB (.bool a) b=(a==b):=by cases a<;>cases b<;>rfl
theorem aFU{d:Option Nat}{op:AOp}{s:Nat}{b:Bool}{m:Nat}{l:List AO}{F:Fr}{S:St}{Q:Fr->St->Prop}:tS fns (⟨d,op,some (s,b),m⟩::l) F S Q↔if isB (aD s F) b=true then tS fns (⟨d,op,none,m⟩::l) F S Q else tS fns l (cR d F .undef) S Q:=by
 have e:∀call,aEd ⟨d,op,some (s,b),m⟩ call F S=cB (isB (aD s F) b) (aEd ⟨d,op,none,m⟩ call F S) (some (cR d F .undef,S)):=fun call=>by
  cases op<;>rfl
 constructor
 ·rintro⟨n,F',S',h1,h2⟩;rw[iA,e] at h1;cases hb:isB (aD s F) b with
  | true=>
   rw[hb,aO] at h1;rw[if_pos rfl];exact⟨n,F',S',by rw[iA];exact h1,h2⟩
  | false=>
   rw[hb,aT,aN] at h1;rw[if_neg (by simp)];exact⟨n,F',S',h1,h2⟩
 ·intro h;cases hb:isB (aD s F) b with
  | true=>
   rw[hb,if_pos rfl] at h;have⟨n,F',S',h1,h2⟩:=h;refine⟨n,F',S',?_,h2⟩;rw[iA,e,hb,aO,<-iA];exact h1
  | false=>
   rw[hb,if_neg (by simp)] at h;have⟨n,F',S',h1,h2⟩:=h;refine⟨n,F',S',?_,h2⟩;rw[iA,e,hb,aT,aN];exact h1
theorem aOW{d:Option Nat}{op:AOp}{s:Nat}{b:Bool}{m:Nat}{l:List AO}{F:Fr}{S:St}{Q:Fr->St->Prop}(hg:aD s F= .bool b):tS fns (⟨d,op,some (s,b),m⟩::l) F S Q↔tS fns (⟨d,op,none,m⟩::l) F S Q:=by
 rw[aFU,hg,vR,if_pos (by simp)]
theorem aNz{d:Option Nat}{op:AOp}{s:Nat}{b:Bool}{m:Nat}{l:List AO}{F:Fr}{S:St}{Q:Fr->St->Prop}(hg:aD s F= .bool (!b)):tS fns (⟨d,op,some (s,b),m⟩::l) F S Q↔tS fns l (cR d F .undef) S Q:=by
 rw[aFU,hg,vR,if_neg (by cases b<;>simp)]
theorem aM{c:cU}{x y:AC}{A:bS}{S:St}{Q:Out->bS->St->Prop}(hc:c.val A.F= .bool true)(h:lU fns x A S Q):lU fns (.cond c x y) A S Q:=aJg hc (fun _=>h) (fun h=>by cases h)
theorem aK{c:cU}{x y:AC}{A:bS}{S:St}{Q:Out->bS->St->Prop}(hc:c.val A.F= .bool false)(h:lU fns y A S Q):lU fns (.cond c x y) A S Q:=aJg hc (fun h=>by cases h) (fun _=>h)
theorem bQ{ops:List AO}{y:AC}{A:bS}{S:St}{Q:Out->bS->St->Prop}(h:tS fns ops A.F S fun F' S'=>aEb fns y Q .normal ⟨F',A.inr⟩ S'):lU fns (.seq (.reg ops) y) A S Q:=aA (aG h)
theorem fE{ops:List AO}{y z:AC}{A:bS}{S:St}{Q:Out->bS->St->Prop}(h:tS fns ops A.F S fun F' S'=>aEb fns y (aEb fns z Q) .normal ⟨F',A.inr⟩ S'):lU fns (.seq (.seq (.reg ops) y) z) A S Q:=aA (aA (aG h))
theorem tY(y:AC)(Q:Out->bS->St->Prop)(A:bS)(S:St):aEb fns y Q .normal A S=lU fns y A S Q:=rfl
theorem aBU(y:AC)(Q:Out->bS->St->Prop)(A:bS)(S:St):aEb fns y Q .ret A S=Q .ret A S:=rfl
theorem zB(y:AC)(Q:Out->bS->St->Prop)(A:bS)(S:St)(i:Nat):aEb fns y Q (.exit i) A S=Q (.exit i) A S:=rfl
theorem rZ(id:Nat)(Q:Out->bS->St->Prop)(A:bS)(S:St):aBq id Q .normal A S=Q .normal A S:=rfl
theorem zZ(id:Nat)(Q:Out->bS->St->Prop)(A:bS)(S:St):aBq id Q .ret A S=Q .ret A S:=rfl
theorem vM(id i:Nat)(Q:Out->bS->St->Prop)(A:bS)(S:St):aBq id Q (.exit i) A S=if i=id then Q .normal A S else Q (.exit i) A S:=rfl
theorem rO(I:Nat->bS->St->Prop)(k:Nat)(Q:Out->bS->St->Prop)(A:bS)(S:St):aFH I k Q .normal A S=∃k',k'<k/\I k' A S:=rfl
theorem zM(I:Nat->bS->St->Prop)(k:Nat)(Q:Out->bS->St->Prop)(A:bS)(S:St):aFH I k Q .ret A S=Q .ret A S:=rfl
theorem wL(I:Nat->bS->St->Prop)(k i:Nat)(Q:Out->bS->St->Prop)(A:bS)(S:St):aFH I k Q (.exit i) A S=Q (.exit i) A S:=rfl
theorem aC0(res:List RV)(Q:AV->St->Prop)(A:bS)(S:St):aPK res Q .ret A S=lM (results res A.F S.h) fun vs=>Q (oneOf vs) S:=rfl
theorem wJ(F:Fr)(h:T AB):results [] F h=some []:=rfl
theorem aBo(i:Nat)(rs:List RV)(F:Fr)(h:T AB):results (.t i::rs) F h=bH (results rs F h) fun vs=>some (aD i F::vs):=rfl
theorem aBv(v:AV):oneOf [v]=v:=rfl
theorem aBe(v u:AV)(vs:b6):oneOf (v::u::vs)= .tup (v::u::vs):=rfl
theorem zI(i:Nat)(F:Fr):sC [] i F=F:=rfl
theorem vT(v:AV)(vs:b6)(i:Nat)(F:Fr):sC (v::vs) i F=sC vs (i+1) (cR (some i) F v):=rfl
theorem zG(t:Bool)(a b:cU)(F:Fr):wW (.bool t) a b F=some (cB t (a.val F) (b.val F)):=rfl
theorem xE(x:cU):dR (.mv x)=false:=rfl
theorem uA(op:BinOp)(e:qF)(x y:cU):dR (.bin op e x y)=false:=rfl
theorem lR(k:IxK)(x y:cU):dR (.cn k x y)=false:=rfl
theorem pT(g:Bool)(n:Nat)(x:cU):dR (.ld g n x)=true:=rfl
theorem gQ(x:cU):dR (.cq x)=false:=rfl
theorem zN(k:IntKind)(x:cU):dR (.conv (.int k) x)=false:=rfl
theorem vK(h0:T AB)(hs:List (Nat×Nat×T AB)):gK h0 hs []=true:=rfl
theorem nQ(h0:T AB)(hs:List (Nat×Nat×T AB))(l:jT)(ls:List jT):gK h0 hs (l::ls)=cB (dY l hs h0) (gK h0 hs ls) false:=rfl
theorem aDv(l:jT)(h:T AB):dY l [] h=mP l.v (gT l.q l.F h):=rfl
theorem iU(v w:AV):mP v (some w)=cT w v:=rfl
theorem bX(m:Nat)(h:T AB):cO m [] h=([],h):=rfl
attribute [simp] dK aIT aBK aOW aNz aAC jB iE aEe vR tY aBU zB rZ zZ vM rO zM wL aC0 wJ aBo
 aBv aBe zI vT zG aN tP aO aT aFI aCJ aIj xC qB mE aDJ vZ aDu aF2 fR aGx bP gP
 aFY aF5 aFD aF8 aF6 aFA aF9 aCD aFr aD7
 xE uA lR pT gQ zN vK nQ aDv iU eM aBP aDy mR aAa bX
theorem wrap_i64{n:Int}(h1: -9223372036854775808<=n)(h2:n<=9223372036854775807):IntKind.i64.wrap n=n:=xV (by simp [IntKind.min,IntKind.signed,IntKind.bits];omega) (by simp [IntKind.max,IntKind.signed,IntKind.bits];omega)
theorem dc(i:Nat)(h:i<9223372036854775807:=by omega):IntKind.i64.wrap ((i:Int)+1)=((i+1:Nat):Int):=by rw[wrap_i64 (by omega) (by omega)];omega
theorem wrap_u64{n:Int}(h1:0<=n)(h2:n<=18446744073709551615):IntKind.u64.wrap n=n:=xV (by simp [IntKind.min,IntKind.signed];omega) (by simp [IntKind.max,IntKind.signed,IntKind.bits];omega)
theorem oE(F:Fr):dG [] F= []:=rfl
theorem jI(x:cU)(l:List cU)(F:Fr):dG (x::l) F=x.val F::dG l F:=rfl
theorem dS(n:Nat)(x v:cU)(call:fK)(F:Fr)(S:St):evX (.st n x v) call F S=bH (v.val F).cells fun cs=>mJ (x.val F) n cs S:=rfl
theorem cH(k:IntKind)(n:Int):(AV.int k n).cells=some [.int k n]:=rfl
attribute [simp] oE jI dS cH
theorem aAm(k:SlK)(x:cU)(lo hi mx:Option cU)(F:Fr)(h:T AB):gT (.slc k x lo hi mx) F h=rQ k (x.val F) lo hi mx F:=rfl
theorem aFy(k:IntKind){z:Int}(h:0<=z):fG (.int k z)=some z.toNat:=by
 obtain⟨n,rfl⟩:=Int.eq_ofNat_of_zero_le h;rfl
attribute [simp] aAm aFy
end Go.Ev.Gl
namespace Go.Ev.Gl
end Go.Ev.Gl
namespace Go.Ev.Gl
end Go.Ev.Gl
namespace Go.Ev.Gl
end Go.Ev.Gl
namespace Go.Ev.Gl
end Go.Ev.Gl
namespace Go.Ev.Gl
end Go.Ev.Gl
