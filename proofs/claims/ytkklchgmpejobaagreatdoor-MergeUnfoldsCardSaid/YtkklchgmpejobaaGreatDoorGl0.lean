import Derived.Test.YtkklchgmpejobaaGreatDoorEv8
set_option maxHeartbeats 16000000
set_option linter.unusedSimpArgs false
set_option linter.unusedVariables false
namespace Go.Ev.Gl
variable {fns:T cW}
theorem vV(a b:Bool):isB (.bool a) b=(a==b):=by cases a<;>cases b<;>rfl
theorem aFT{d:Option Nat}{op:AOp}{s:Nat}{b:Bool}{m:Nat}{l:List AO}{F:Fr}{S:St}{Q:Fr→St→Prop}:uZ fns (⟨d,op,some (s,b),m⟩::l) F S Q↔if isB (aH s F) b=true then uZ fns (⟨d,op,none,m⟩::l) F S Q else uZ fns l (cB d F .undef) S Q:=by
 have e:∀call,aD5 ⟨d,op,some (s,b),m⟩ call F S=bK (isB (aH s F) b) (aD5 ⟨d,op,none,m⟩ call F S) (some (cB d F .undef,S)):=fun call=>by
  cases op<;>rfl
 constructor
 ·rintro⟨n,F',S',h1,h2⟩;rw[fX,e] at h1;cases hb:isB (aH s F) b with
  | true=>
   rw[hb,aP] at h1;rw[if_pos rfl];exact⟨n,F',S',by rw[fX];exact h1,h2⟩
  | false=>
   rw[hb,aU,aM] at h1;rw[if_neg (by simp)];exact⟨n,F',S',h1,h2⟩
 ·intro h;cases hb:isB (aH s F) b with
  | true=>
   rw[hb,if_pos rfl] at h;obtain⟨n,F',S',h1,h2⟩:=h;refine⟨n,F',S',?_,h2⟩;rw[fX,e,hb,aP,←fX];exact h1
  | false=>
   rw[hb,if_neg (by simp)] at h;obtain⟨n,F',S',h1,h2⟩:=h;refine⟨n,F',S',?_,h2⟩;rw[fX,e,hb,aU,aM];exact h1
theorem aNQ{d:Option Nat}{op:AOp}{s:Nat}{b:Bool}{m:Nat}{l:List AO}{F:Fr}{S:St}{Q:Fr→St→Prop}(hg:aH s F= .bool b):uZ fns (⟨d,op,some (s,b),m⟩::l) F S Q↔uZ fns (⟨d,op,none,m⟩::l) F S Q:=by
 rw[aFT,hg,vV,if_pos (by simp)]
theorem aL9{d:Option Nat}{op:AOp}{s:Nat}{b:Bool}{m:Nat}{l:List AO}{F:Fr}{S:St}{Q:Fr→St→Prop}(hg:aH s F= .bool (!b)):uZ fns (⟨d,op,some (s,b),m⟩::l) F S Q↔uZ fns l (cB d F .undef) S Q:=by
 rw[aFT,hg,vV,if_neg (by cases b<;>simp)]
theorem aN{c:cF}{x y:AC}{A:bH}{S:St}{Q:Out→bH→St→Prop}(hc:c.val A.F= .bool true)(h:nO fns x A S Q):nO fns (.cond c x y) A S Q:=aIs hc (fun _=>h) (fun h=>by cases h)
theorem aL{c:cF}{x y:AC}{A:bH}{S:St}{Q:Out→bH→St→Prop}(hc:c.val A.F= .bool false)(h:nO fns y A S Q):nO fns (.cond c x y) A S Q:=aIs hc (fun h=>by cases h) (fun _=>h)
theorem bL{ops:List AO}{y:AC}{A:bH}{S:St}{Q:Out→bH→St→Prop}(h:uZ fns ops A.F S fun F' S'=>aCY fns y Q .normal ⟨F',A.inr⟩ S'):nO fns (.seq (.reg ops) y) A S Q:=aC (aF h)
theorem fY{ops:List AO}{y z:AC}{A:bH}{S:St}{Q:Out→bH→St→Prop}(h:uZ fns ops A.F S fun F' S'=>aCY fns y (aCY fns z Q) .normal ⟨F',A.inr⟩ S'):nO fns (.seq (.seq (.reg ops) y) z) A S Q:=aC (aC (aF h))
theorem uH(y:AC)(Q:Out→bH→St→Prop)(A:bH)(S:St):aCY fns y Q .normal A S=nO fns y A S Q:=rfl
theorem aBu(y:AC)(Q:Out→bH→St→Prop)(A:bH)(S:St):aCY fns y Q .ret A S=Q .ret A S:=rfl
theorem zY(y:AC)(Q:Out→bH→St→Prop)(A:bH)(S:St)(i:Nat):aCY fns y Q (.exit i) A S=Q (.exit i) A S:=rfl
theorem sG(id:Nat)(Q:Out→bH→St→Prop)(A:bH)(S:St):aBZ id Q .normal A S=Q .normal A S:=rfl
theorem aAb(id:Nat)(Q:Out→bH→St→Prop)(A:bH)(S:St):aBZ id Q .ret A S=Q .ret A S:=rfl
theorem wK(id i:Nat)(Q:Out→bH→St→Prop)(A:bH)(S:St):aBZ id Q (.exit i) A S=if i=id then Q .normal A S else Q (.exit i) A S:=rfl
theorem rN(I:Nat→bH→St→Prop)(k:Nat)(Q:Out→bH→St→Prop)(A:bH)(S:St):aFA I k Q .normal A S=∃k',k'<k∧I k' A S:=rfl
theorem aAn(I:Nat→bH→St→Prop)(k:Nat)(Q:Out→bH→St→Prop)(A:bH)(S:St):aFA I k Q .ret A S=Q .ret A S:=rfl
theorem wV(I:Nat→bH→St→Prop)(k i:Nat)(Q:Out→bH→St→Prop)(A:bH)(S:St):aFA I k Q (.exit i) A S=Q (.exit i) A S:=rfl
theorem aDs(res:List RV)(Q:AV→St→Prop)(A:bH)(S:St):aMI res Q .ret A S=jT (results res A.F S.h) fun vs=>Q (oneOf vs) S:=rfl
theorem xG(F:Fr)(h:T AB):results [] F h=some []:=rfl
theorem aBp(i:Nat)(rs:List RV)(F:Fr)(h:T AB):results (.t i::rs) F h=aZ (results rs F h) fun vs=>some (aH i F::vs):=rfl
theorem aBE(v:AV):oneOf [v]=v:=rfl
theorem aBA(v u:AV)(vs:List AV):oneOf (v::u::vs)= .tup (v::u::vs):=rfl
theorem zP(i:Nat)(F:Fr):sF [] i F=F:=rfl
theorem vU(v:AV)(vs:List AV)(i:Nat)(F:Fr):sF (v::vs) i F=sF vs (i+1) (cB (some i) F v):=rfl
theorem aAs(t:Bool)(a b:cF)(F:Fr):xB (.bool t) a b F=some (bK t (a.val F) (b.val F)):=rfl
theorem xS(x:cF):dO (.mv x)=false:=rfl
theorem uP(op:BinOp)(e:oZ)(x y:cF):dO (.bin op e x y)=false:=rfl
theorem jA(k:IxK)(x y:cF):dO (.iaddr k x y)=false:=rfl
theorem pR(g:Bool)(n:Nat)(x:cF):dO (.ld g n x)=true:=rfl
theorem fL(x:cF):dO (.lenSl x)=false:=rfl
theorem zZ(k:IntKind)(x:cF):dO (.conv (.int k) x)=false:=rfl
theorem xK(h0:T AB)(hs:List (Nat×Nat×T AB)):fM h0 hs []=true:=rfl
theorem mT(h0:T AB)(hs:List (Nat×Nat×T AB))(l:lG)(ls:List lG):fM h0 hs (l::ls)=bK (fA l hs h0) (fM h0 hs ls) false:=rfl
theorem aDv(l:lG)(h:T AB):fA l [] h=pD l.v (gT l.q l.F h):=rfl
theorem gS(v w:AV):pD v (some w)=bW w v:=rfl
theorem bT(m:Nat)(h:T AB):cA m [] h=([],h):=rfl
attribute [simp] eS aIv aBQ aNQ aL9 aAP jP oY aIr vV uH aBu zY sG aAb wK rN aAn wV aDs xG aBp
 aBE aBA zP vU aAs aM sQ aP aU aFH aCS aFs xT oE mD aDF xA aD1 aFn fV aJk bQ fF
 aE6 aFu aFe aE4 aFa aF6 aFG aCO aFO aDS
 xS uP jA pR fL zZ xK mT aDv gS dG aB3 aD3 uS aAg bT
theorem wrap_i64{n:Int}(h1: -9223372036854775808≤n)(h2:n≤9223372036854775807):IntKind.i64.wrap n=n:=uJ (by simp [IntKind.min,IntKind.signed,IntKind.bits];omega) (by simp [IntKind.max,IntKind.signed,IntKind.bits];omega)
theorem wrap_u64{n:Int}(h1:0≤n)(h2:n≤18446744073709551615):IntKind.u64.wrap n=n:=uJ (by simp [IntKind.min,IntKind.signed];omega) (by simp [IntKind.max,IntKind.signed,IntKind.bits];omega)
theorem wrap_u32{n:Int}(h1:0≤n)(h2:n≤4294967295):IntKind.u32.wrap n=n:=uJ (by simp [IntKind.min,IntKind.signed];omega) (by simp [IntKind.max,IntKind.signed,IntKind.bits];omega)
theorem kI(F:Fr):dF [] F= []:=rfl
theorem gF(x:cF)(l:List cF)(F:Fr):dF (x::l) F=x.val F::dF l F:=rfl
theorem dN(n:Nat)(x v:cF)(call:eR)(F:Fr)(S:St):evX (.st n x v) call F S=aZ (v.val F).cells fun cs=>kN (x.val F) n cs S:=rfl
theorem cH(k:IntKind)(n:Int):(AV.int k n).cells=some [.int k n]:=rfl
attribute [simp] kI gF dN cH
theorem aFE(k:SlK)(x:cF)(lo hi mx:Option cF)(F:Fr)(h:T AB):gT (.slc k x lo hi mx) F h=rR k (x.val F) lo hi mx F:=rfl
theorem nF(k:IntKind){z:Int}(h:0≤z):eZ (.int k z)=some z.toNat:=by
 obtain⟨n,rfl⟩:=Int.eq_ofNat_of_zero_le h;rfl
attribute [simp] aFE nF
end Go.Ev.Gl
namespace Go.Ev.Gl
end Go.Ev.Gl
namespace Go.Ev.Gl
end Go.Ev.Gl
namespace Go.Ev.Gl
end Go.Ev.Gl
namespace Go.Ev.Gl
end Go.Ev.Gl
namespace Go.Ev.Gl
end Go.Ev.Gl
