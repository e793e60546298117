import Derived.Test.YtdkehphobhnjoaaEv8
set_option maxHeartbeats 16000000
set_option linter.unusedSimpArgs false
set_option linter.unusedVariables false
namespace Go.Ev.Gl
variable {fns:T dE}
theorem tD(a b:Bool):isB (.bool a) b=(a==b):=by cases a<;>cases b<;>rfl
theorem aD1{d:Option Nat}{op:AOp}{s:Nat}{b:Bool}{m:Nat}{l:List AO}{F:Fr}{S:St}{Q:Fr→St→Prop}:qL fns (⟨d,op,some (s,b),m⟩::l) F S Q↔if isB (aD s F) b=true then qL fns (⟨d,op,none,m⟩::l) F S Q else qL fns l (cD d F .undef) S Q:=by
 have e:∀call,aCw ⟨d,op,some (s,b),m⟩ call F S=bL (isB (aD s F) b) (aCw ⟨d,op,none,m⟩ call F S) (some (cD d F .undef,S)):=fun call=>by
  cases op<;>rfl
 constructor
 ·rintro⟨n,F',S',h1,h2⟩;rw[fE,e] at h1;cases hb:isB (aD s F) b with
  | true=>
   rw[hb,aQ] at h1;rw[if_pos rfl];exact⟨n,F',S',by rw[fE];exact h1,h2⟩
  | false=>
   rw[hb,aV,aT] at h1;rw[if_neg (by simp)];exact⟨n,F',S',h1,h2⟩
 ·intro h;cases hb:isB (aD s F) b with
  | true=>
   rw[hb,if_pos rfl] at h;obtain⟨n,F',S',h1,h2⟩:=h;refine⟨n,F',S',?_,h2⟩;rw[fE,e,hb,aQ,←fE];exact h1
  | false=>
   rw[hb,if_neg (by simp)] at h;obtain⟨n,F',S',h1,h2⟩:=h;refine⟨n,F',S',?_,h2⟩;rw[fE,e,hb,aV,aT];exact h1
theorem aLW{d:Option Nat}{op:AOp}{s:Nat}{b:Bool}{m:Nat}{l:List AO}{F:Fr}{S:St}{Q:Fr→St→Prop}(hg:aD s F= .bool b):qL fns (⟨d,op,some (s,b),m⟩::l) F S Q↔qL fns (⟨d,op,none,m⟩::l) F S Q:=by
 rw[aD1,hg,tD,if_pos (by simp)]
theorem aKA{d:Option Nat}{op:AOp}{s:Nat}{b:Bool}{m:Nat}{l:List AO}{F:Fr}{S:St}{Q:Fr→St→Prop}(hg:aD s F= .bool (!b)):qL fns (⟨d,op,some (s,b),m⟩::l) F S Q↔qL fns l (cD d F .undef) S Q:=by
 rw[aD1,hg,tD,if_neg (by cases b<;>simp)]
theorem aM{c:cJ}{x y:AC}{A:bH}{S:St}{Q:Out→bH→St→Prop}(hc:c.val A.F= .bool true)(h:mA fns x A S Q):mA fns (.cond c x y) A S Q:=aG2 hc (fun _=>h) (fun h=>by cases h)
theorem aK{c:cJ}{x y:AC}{A:bH}{S:St}{Q:Out→bH→St→Prop}(hc:c.val A.F= .bool false)(h:mA fns y A S Q):mA fns (.cond c x y) A S Q:=aG2 hc (fun h=>by cases h) (fun _=>h)
theorem bE{ops:List AO}{y:AC}{A:bH}{S:St}{Q:Out→bH→St→Prop}(h:qL fns ops A.F S fun F' S'=>aCt fns y Q .normal ⟨F',A.inr⟩ S'):mA fns (.seq (.reg ops) y) A S Q:=aA (aF h)
theorem eG{ops:List AO}{y z:AC}{A:bH}{S:St}{Q:Out→bH→St→Prop}(h:qL fns ops A.F S fun F' S'=>aCt fns y (aCt fns z Q) .normal ⟨F',A.inr⟩ S'):mA fns (.seq (.seq (.reg ops) y) z) A S Q:=aA (aA (aF h))
theorem qQ(y:AC)(Q:Out→bH→St→Prop)(A:bH)(S:St):aCt fns y Q .normal A S=mA fns y A S Q:=rfl
theorem aAi(y:AC)(Q:Out→bH→St→Prop)(A:bH)(S:St):aCt fns y Q .ret A S=Q .ret A S:=rfl
theorem wD(y:AC)(Q:Out→bH→St→Prop)(A:bH)(S:St)(i:Nat):aCt fns y Q (.exit i) A S=Q (.exit i) A S:=rfl
theorem pA(id:Nat)(Q:Out→bH→St→Prop)(A:bH)(S:St):zC id Q .normal A S=Q .normal A S:=rfl
theorem xB(id:Nat)(Q:Out→bH→St→Prop)(A:bH)(S:St):zC id Q .ret A S=Q .ret A S:=rfl
theorem sR(id i:Nat)(Q:Out→bH→St→Prop)(A:bH)(S:St):zC id Q (.exit i) A S=if i=id then Q .normal A S else Q (.exit i) A S:=rfl
theorem oU(I:Nat→bH→St→Prop)(k:Nat)(Q:Out→bH→St→Prop)(A:bH)(S:St):aDS I k Q .normal A S=∃k',k'<k∧I k' A S:=rfl
theorem wO(I:Nat→bH→St→Prop)(k:Nat)(Q:Out→bH→St→Prop)(A:bH)(S:St):aDS I k Q .ret A S=Q .ret A S:=rfl
theorem tT(I:Nat→bH→St→Prop)(k i:Nat)(Q:Out→bH→St→Prop)(A:bH)(S:St):aDS I k Q (.exit i) A S=Q (.exit i) A S:=rfl
theorem aBl(res:List RV)(Q:AV→St→Prop)(A:bH)(S:St):aMw res Q .ret A S=jD (results res A.F S.h) fun vs=>Q (oneOf vs) S:=rfl
theorem tO(F:Fr)(h:T AB):results [] F h=some []:=rfl
theorem zA(i:Nat)(rs:List RV)(F:Fr)(h:T AB):results (.t i::rs) F h=aZ (results rs F h) fun vs=>some (aD i F::vs):=rfl
theorem zI(v:AV):oneOf [v]=v:=rfl
theorem yU(v u:AV)(vs:List AV):oneOf (v::u::vs)= .tup (v::u::vs):=rfl
theorem wK(i:Nat)(F:Fr):pB [] i F=F:=rfl
theorem tI(v:AV)(vs:List AV)(i:Nat)(F:Fr):pB (v::vs) i F=pB vs (i+1) (cD (some i) F v):=rfl
theorem wH(t:Bool)(a b:cJ)(F:Fr):uB (.bool t) a b F=some (bL t (a.val F) (b.val F)):=rfl
theorem uK(x:cJ):dL (.mv x)=false:=rfl
theorem qT(op:BinOp)(e:nZ)(x y:cJ):dL (.bin op e x y)=false:=rfl
theorem jH(k:IxK)(x y:cJ):dL (.iaddr k x y)=false:=rfl
theorem mW(g:Bool)(n:Nat)(x:cJ):dL (.ld g n x)=true:=rfl
theorem eX(x:cJ):dL (.lenSl x)=false:=rfl
theorem wP(k:IntKind)(x:cJ):dL (.conv (.int k) x)=false:=rfl
theorem sP(h0:T AB)(hs:List (Nat×Nat×T AB)):gI h0 hs []=true:=rfl
theorem lC(h0:T AB)(hs:List (Nat×Nat×T AB))(l:kL)(ls:List kL):gI h0 hs (l::ls)=bL (eY l hs h0) (gI h0 hs ls) false:=rfl
theorem aBO(l:kL)(h:T AB):eY l [] h=oK l.v (gS l.q l.F h):=rfl
theorem fY(v w:AV):oK v (some w)=cB w v:=rfl
theorem cK(m:Nat)(h:T AB):cH m [] h=([],h):=rfl
attribute [simp] eO aGF zW aLW aKA xV oO mF aG4 tD qQ aAi wD pA xB sR oU wO tT aBl tO zA
 zI yU wK tI wH aT qH aQ aV aDT aBa aGc uI mZ kI aB3 tL aBM aEc lA aJq dR pS
 aD8 aEf aDQ aEi aEg aDO aEk aA4 aDE aCq
 uK qT jH mW eX wP sP lC aBO fY dJ aAd aBT mM xC cK
theorem wrap_i64{n:Int}(h1: -9223372036854775808≤n)(h2:n≤9223372036854775807):IntKind.i64.wrap n=n:=uY (by simp [IntKind.min,IntKind.signed,IntKind.bits];omega) (by simp [IntKind.max,IntKind.signed,IntKind.bits];omega)
theorem wrap_u64{n:Int}(h1:0≤n)(h2:n≤18446744073709551615):IntKind.u64.wrap n=n:=uY (by simp [IntKind.min,IntKind.signed];omega) (by simp [IntKind.max,IntKind.signed,IntKind.bits];omega)
theorem lI(F:Fr):cO [] F= []:=rfl
theorem gR(x:cJ)(l:List cJ)(F:Fr):cO (x::l) F=x.val F::cO l F:=rfl
theorem eJ(n:Nat)(x v:cJ)(call:dZ)(F:Fr)(S:St):evX (.st n x v) call F S=aZ (v.val F).cells fun cs=>lK (x.val F) n cs S:=rfl
theorem cI(k:IntKind)(n:Int):(AV.int k n).cells=some [.int k n]:=rfl
attribute [simp] lI gR eJ cI
theorem aAY(k:SlK)(x:cJ)(lo hi mx:Option cJ)(F:Fr)(h:T AB):gS (.slc k x lo hi mx) F h=qN k (x.val F) lo hi mx F:=rfl
theorem aDK(k:IntKind){z:Int}(h:0≤z):eR (.int k z)=some z.toNat:=by
 obtain⟨n,rfl⟩:=Int.eq_ofNat_of_zero_le h;rfl
attribute [simp] aAY aDK
end Go.Ev.Gl
namespace Go.Ev.Gl
end Go.Ev.Gl
namespace Go.Ev.Gl
end Go.Ev.Gl
namespace Go.Ev.Gl
end Go.Ev.Gl
namespace Go.Ev.Gl
end Go.Ev.Gl
namespace Go.Ev.Gl
end Go.Ev.Gl
