import Derived.Test.YtkklchgmpejobaaDoorEv8
set_option maxHeartbeats 16000000
set_option linter.unusedSimpArgs false
set_option linter.unusedVariables false
namespace Go.Ev.Gl
variable {fns:T dB}
theorem wL(a b:Bool):isB (.bool a) b=(a==b):=by cases a<;>cases b<;>rfl
theorem aFx{d:Option Nat}{op:AOp}{s:Nat}{b:Bool}{m:Nat}{l:List AO}{F:Fr}{S:St}{Q:Fr→St→Prop}:uG fns (⟨d,op,some (s,b),m⟩::l) F S Q↔if isB (aD s F) b=true then uG fns (⟨d,op,none,m⟩::l) F S Q else uG fns l (cI d F .undef) S Q:=by
 have e:∀call,aCT ⟨d,op,some (s,b),m⟩ call F S=bL (isB (aD s F) b) (aCT ⟨d,op,none,m⟩ call F S) (some (cI d F .undef,S)):=fun call=>by
  cases op<;>rfl
 constructor
 ·rintro⟨n,F',S',h1,h2⟩;rw[gD,e] at h1;cases hb:isB (aD s F) b with
  | true=>
   rw[hb,aL] at h1;rw[if_pos rfl];exact⟨n,F',S',by rw[gD];exact h1,h2⟩
  | false=>
   rw[hb,aR,aJ] at h1;rw[if_neg (by simp)];exact⟨n,F',S',h1,h2⟩
 ·intro h;cases hb:isB (aD s F) b with
  | true=>
   rw[hb,if_pos rfl] at h;obtain⟨n,F',S',h1,h2⟩:=h;refine⟨n,F',S',?_,h2⟩;rw[gD,e,hb,aL,←gD];exact h1
  | false=>
   rw[hb,if_neg (by simp)] at h;obtain⟨n,F',S',h1,h2⟩:=h;refine⟨n,F',S',?_,h2⟩;rw[gD,e,hb,aR,aJ];exact h1
theorem aMJ{d:Option Nat}{op:AOp}{s:Nat}{b:Bool}{m:Nat}{l:List AO}{F:Fr}{S:St}{Q:Fr→St→Prop}(hg:aD s F= .bool b):uG fns (⟨d,op,some (s,b),m⟩::l) F S Q↔uG fns (⟨d,op,none,m⟩::l) F S Q:=by
 rw[aFx,hg,wL,if_pos (by simp)]
theorem aMz{d:Option Nat}{op:AOp}{s:Nat}{b:Bool}{m:Nat}{l:List AO}{F:Fr}{S:St}{Q:Fr→St→Prop}(hg:aD s F= .bool (!b)):uG fns (⟨d,op,some (s,b),m⟩::l) F S Q↔uG fns l (cI d F .undef) S Q:=by
 rw[aFx,hg,wL,if_neg (by cases b<;>simp)]
theorem aT{c:cK}{x y:AC}{A:bR}{S:St}{Q:Out→bR→St→Prop}(hc:c.val A.F= .bool true)(h:mA fns x A S Q):mA fns (.cond c x y) A S Q:=aHP hc (fun _=>h) (fun h=>by cases h)
theorem aO{c:cK}{x y:AC}{A:bR}{S:St}{Q:Out→bR→St→Prop}(hc:c.val A.F= .bool false)(h:mA fns y A S Q):mA fns (.cond c x y) A S Q:=aHP hc (fun h=>by cases h) (fun _=>h)
theorem cD{ops:List AO}{y:AC}{A:bR}{S:St}{Q:Out→bR→St→Prop}(h:uG fns ops A.F S fun F' S'=>aCX fns y Q .normal ⟨F',A.inr⟩ S'):mA fns (.seq (.reg ops) y) A S Q:=aC (aE h)
theorem jB{ops:List AO}{y z:AC}{A:bR}{S:St}{Q:Out→bR→St→Prop}(h:uG fns ops A.F S fun F' S'=>aCX fns y (aCX fns z Q) .normal ⟨F',A.inr⟩ S'):mA fns (.seq (.seq (.reg ops) y) z) A S Q:=aC (aC (aE h))
theorem tZ(y:AC)(Q:Out→bR→St→Prop)(A:bR)(S:St):aCX fns y Q .normal A S=mA fns y A S Q:=rfl
theorem aAW(y:AC)(Q:Out→bR→St→Prop)(A:bR)(S:St):aCX fns y Q .ret A S=Q .ret A S:=rfl
theorem yS(y:AC)(Q:Out→bR→St→Prop)(A:bR)(S:St)(i:Nat):aCX fns y Q (.exit i) A S=Q (.exit i) A S:=rfl
theorem rN(id:Nat)(Q:Out→bR→St→Prop)(A:bR)(S:St):aAG id Q .normal A S=Q .normal A S:=rfl
theorem yT(id:Nat)(Q:Out→bR→St→Prop)(A:bR)(S:St):aAG id Q .ret A S=Q .ret A S:=rfl
theorem vC(id i:Nat)(Q:Out→bR→St→Prop)(A:bR)(S:St):aAG id Q (.exit i) A S=if i=id then Q .normal A S else Q (.exit i) A S:=rfl
theorem qZ(I:Nat→bR→St→Prop)(k:Nat)(Q:Out→bR→St→Prop)(A:bR)(S:St):aE4 I k Q .normal A S=∃k',k'<k∧I k' A S:=rfl
theorem yC(I:Nat→bR→St→Prop)(k:Nat)(Q:Out→bR→St→Prop)(A:bR)(S:St):aE4 I k Q .ret A S=Q .ret A S:=rfl
theorem vR(I:Nat→bR→St→Prop)(k i:Nat)(Q:Out→bR→St→Prop)(A:bR)(S:St):aE4 I k Q (.exit i) A S=Q (.exit i) A S:=rfl
theorem aCB(res:List RV)(Q:AV→St→Prop)(A:bR)(S:St):aPt res Q .ret A S=jY (results res A.F S.h) fun vs=>Q (oneOf vs) S:=rfl
theorem vP(F:Fr)(h:T AB):results [] F h=some []:=rfl
theorem aAR(i:Nat)(rs:List RV)(F:Fr)(h:T AB):results (.t i::rs) F h=aW (results rs F h) fun vs=>some (aD i F::vs):=rfl
theorem aBl(v:AV):oneOf [v]=v:=rfl
theorem aBa(v u:AV)(vs:List AV):oneOf (v::u::vs)= .tup (v::u::vs):=rfl
theorem yU(i:Nat)(F:Fr):rH [] i F=F:=rfl
theorem vK(v:AV)(vs:List AV)(i:Nat)(F:Fr):rH (v::vs) i F=rH vs (i+1) (cI (some i) F v):=rfl
theorem yD(t:Bool)(a b:cK)(F:Fr):vL (.bool t) a b F=some (bL t (a.val F) (b.val F)):=rfl
theorem aAQ(x:cK):dE (.mv x)=false:=rfl
theorem yJ(op:BinOp)(e:oG)(x y:cK):dE (.bin op e x y)=false:=rfl
theorem mF(k:IxK)(x y:cK):dE (.iaddr k x y)=false:=rfl
theorem aAX(g:Bool)(n:Nat)(x:cK):dE (.ld g n x)=true:=rfl
theorem gG(x:cK):dE (.lenSl x)=false:=rfl
theorem yG(k:IntKind)(x:cK):dE (.conv (.int k) x)=false:=rfl
theorem aFZ(h0:T AB)(hs:List (Nat×Nat×T AB)):fH h0 hs []=true:=rfl
theorem uN(h0:T AB)(hs:List (Nat×Nat×T AB))(l:jQ)(ls:List jQ):fH h0 hs (l::ls)=bL (fS l hs h0) (fH h0 hs ls) false:=rfl
theorem aCg(l:jQ)(h:T AB):fS l [] h=nD l.v (hJ l.q l.F h):=rfl
theorem tQ(v w:AV):nD v (some w)=cL w v:=rfl
theorem cA(m:Nat)(h:T AB):cG m [] h=([],h):=rfl
attribute [simp] eF aHO aA9 aMJ aMz aAw iA mI aLu wL tZ aAW yS rN yT vC qZ yC vR aCB vP aAR
 aBl aBa yU vK yD aJ sI aL aR aHm aFp aFg aBm sB aDt aCx vI aDC aEG fN aEr bQ dY
 aEO aER aE3 aEL aFr aE0 aFs aB9 aFc aCW
 aAQ yJ mF aAX gG yG aFZ uN aCg tQ fV aBj aDF uD zE cA
theorem wrap_i64{n:Int}(h1: -9223372036854775808≤n)(h2:n≤9223372036854775807):IntKind.i64.wrap n=n:=uC (by simp [IntKind.min,IntKind.signed,IntKind.bits];omega) (by simp [IntKind.max,IntKind.signed,IntKind.bits];omega)
theorem wrap_u64{n:Int}(h1:0≤n)(h2:n≤18446744073709551615):IntKind.u64.wrap n=n:=uC (by simp [IntKind.min,IntKind.signed];omega) (by simp [IntKind.max,IntKind.signed,IntKind.bits];omega)
theorem wrap_u32{n:Int}(h1:0≤n)(h2:n≤4294967295):IntKind.u32.wrap n=n:=uC (by simp [IntKind.min,IntKind.signed];omega) (by simp [IntKind.max,IntKind.signed,IntKind.bits];omega)
theorem qF(F:Fr):dC [] F= []:=rfl
theorem jK(x:cK)(l:List cK)(F:Fr):dC (x::l) F=x.val F::dC l F:=rfl
theorem dG(n:Nat)(x v:cK)(call:eS)(F:Fr)(S:St):zN (.st n x v) call F S=aW (v.val F).cells fun cs=>kR (x.val F) n cs S:=rfl
theorem cS(k:IntKind)(n:Int):(AV.int k n).cells=some [.int k n]:=rfl
attribute [simp] qF jK dG cS
theorem aEP(k:SlK)(x:cK)(lo hi mx:Option cK)(F:Fr)(h:T AB):hJ (.slc k x lo hi mx) F h=qJ k (x.val F) lo hi mx F:=rfl
theorem oT(k:IntKind){z:Int}(h:0≤z):fA (.int k z)=some z.toNat:=by
 obtain⟨n,rfl⟩:=Int.eq_ofNat_of_zero_le h;rfl
attribute [simp] aEP oT
end Go.Ev.Gl
namespace Go.Ev.Gl
end Go.Ev.Gl
namespace Go.Ev.Gl
end Go.Ev.Gl
namespace Go.Ev.Gl
end Go.Ev.Gl
namespace Go.Ev.Gl
end Go.Ev.Gl
namespace Go.Ev.Gl
end Go.Ev.Gl
